/- Plain facts on what the printed functions compute, joined; each says its conditions. -/
import Derived.Test.YtofaindjbhmopaaM1
import Derived.Test.YtofaindjbhmopaaM9
import Derived.Test.YtofaindjbhmopaaM4
import Derived.Test.YtofaindjbhmopaaM5
import Derived.Test.YtofaindjbhmopaaM10
import Derived.Test.YtofaindjbhmopaaM6
import Derived.Test.YtofaindjbhmopaaM7
import Derived.Test.YtofaindjbhmopaaM8
import Derived.Test.YtofaindjbhmopaaM14
import Derived.Test.YtofaindjbhmopaaM13
section
namespace Go.Proofs.Ytofaindjbhmopaa.Pure
open Go.RowKit Go.Proofs.Ytofaindjbhmopaa.X Go.Proofs.YtofaindjbhmopaaW.PrintWords Go.Proofs.YtofaindjbhmopaaW.PrintLast Go.Proofs.YtofaindjbhmopaaW.PrintMore Go.Proofs.Ytofaindjbhmopaa.Aid
abbrev W := S82
theorem rdW {l : List W} {i : Nat} (h : i < l.length) : rd_T82 l (i : Int) = l[i] := getD_at h _
def LM : Nat := 2932031007402
abbrev E := S59
theorem rdE {l : List E} {i : Nat} (h : i < l.length) : rd_T59 l (i : Int) = l[i] := getD_at h _
def small (l : List E) : Prop := l.length ≤ 100 ∧ ∀ e ∈ l, e.f2.length ≤ 100 ∧ e.f1.size ≤ 300
theorem small_at {l : List E} (h : small l) {i : Nat} (hi : i < l.length) : l[i].f2.length ≤ 100 := (h.2 _ (List.getElem_mem hi)).1
def small1 (l : List E) : Prop := l.length ≤ 101 ∧ ∀ e ∈ l, e.f2.length ≤ 101
theorem small.one {l : List E} (h : small l) : small1 l := ⟨Nat.le_succ_of_le h.1, fun e he => Nat.le_succ_of_le (h.2 e he).1⟩
theorem small1_at {l : List E} (h : small1 l) {i : Nat} (hi : i < l.length) : l[i].f2.length ≤ 101 := h.2 _ (List.getElem_mem hi)
def great (l : List E) : Bool := l.any fun e => decide (e.f2.length > 100) || decide (e.f1.size > 300)
theorem great_l0 {l : List E} (hn : l.length ≤ 100) (d : Nat) : ∀ (i k : Nat), i + d = l.length → d < k → r11_Great.l0 k (i : Int) l = some (great (l.drop i)) := by
 induction d with
 | zero =>
  intro i k hi hk
  obtain ⟨k, rfl⟩ := succ_of hk
  simp only [r11_Great.l0]
  rw [if_neg (by omega), List.drop_of_length_le (by omega)]
  rfl
 | succ d ih =>
  intro i k hi hk
  obtain ⟨k, rfl⟩ := succ_of hk
  have hlt : i < l.length := by omega
  simp only [r11_Great.l0]
  rw [if_pos (by omega), if_pos (by omega), rdE hlt, drop_at hlt, w64s (by omega), ih (i + 1) k (by omega) (by omega)]
  by_cases c1 : ((l[i].f2).length : Int) > 100
  ·
   rw [if_pos c1]
   have c2 : l[i].f2.length > 100 := by omega
   simp only [great, List.any_cons, decide_eq_true c2, Bool.true_or]
  ·
   rw [if_neg c1]
   have c2 : ¬ l[i].f2.length > 100 := by omega
   by_cases c3 : ((l[i].f1).size : Int) > 300
   ·
    rw [if_pos c3]
    have c4 : l[i].f1.size > 300 := by omega
    simp only [great, List.any_cons, decide_eq_true c4, Bool.or_true, Bool.true_or]
   ·
    rw [if_neg c3]
    have c4 : ¬ l[i].f1.size > 300 := by omega
    simp only [great, List.any_cons, decide_eq_false c2, decide_eq_false c4, Bool.or_self, Bool.false_or]
theorem great_or (l : List E) (k : Nat) (hk : 100 < k) : r11_Great.f k l = some true ∨ (r11_Great.f k l = some false ∧ small l) := by
 unfold r11_Great.f
 by_cases h : (l.length : Int) > 100
 ·
  exact .inl (if_pos h)
 ·
  rw [if_neg h]
  have h0 := great_l0 (l := l) (by omega) l.length 0 k (by omega) (by omega)
  rw [show ((0 : Nat) : Int) = 0 from rfl, List.drop_zero] at h0
  rw [h0]
  cases hg : great l with
  | true => exact .inl rfl
  | false =>
   refine .inr ⟨rfl, by omega, fun e he => ?_⟩
   have := List.any_eq_false.1 hg e he
   simp only [Bool.or_eq_true, decide_eq_true_eq, not_or] at this
   omega
end Go.Proofs.Ytofaindjbhmopaa.Pure
end
section
namespace Go.Proofs.Ytofaindjbhmopaa.Ord
open Go.Proofs.Ytofaindjbhmopaa.Bytes
abbrev T := List UInt8
abbrev less (a b : T) : Bool := Op.bytesLess a b
theorem less_cons (a b : UInt8) (x y : T) : less (a :: x) (b :: y) = (decide (a < b) || (a == b && less x y)) := rfl
theorem lt_nat {a b : UInt8} : a < b ↔ a.toNat < b.toNat := UInt8.lt_iff_toNat_lt
theorem eq_nat {a b : UInt8} : a = b ↔ a.toNat = b.toNat := ⟨fun h => by rw [h], fun h => UInt8.toNat_inj.mp h⟩
theorem less_iff (a b : UInt8) (x y : T) : less (a :: x) (b :: y) = true ↔ a.toNat < b.toNat ∨ (a = b ∧ less x y = true) := by
 rw [less_cons, Bool.or_eq_true, Bool.and_eq_true, decide_eq_true_eq, beq_iff_eq, lt_nat]
theorem less_nil (a : T) : less a [] = false := by cases a <;> rfl
theorem nil_less (b : UInt8) (y : T) : less [] (b :: y) = true := rfl
theorem irrefl : ∀ a : T, less a a = false
 | [] => rfl
 | a :: x => by
  rw [Bool.eq_false_iff]
  intro h
  rcases (less_iff a a x x).mp h with h | ⟨_, h⟩
  ·
   omega
  ·
   rw [irrefl x] at h
   cases h
theorem trans : ∀ {a b c : T}, less a b = true → less b c = true → less a c = true
 | _, [], _, h, _ => by rw [less_nil] at h; cases h
 | _, _ :: _, [], _, h => by rw [less_nil] at h; cases h
 | [], _ :: _, c :: z, _, _ => nil_less c z
 | a :: x, b :: y, c :: z, h1, h2 => by
  rw [less_iff] at h1 h2 ⊢
  rcases h1 with h1 | ⟨e1, h1⟩
  ·
   rcases h2 with h2 | ⟨e2, _⟩
   ·
    exact .inl (by omega)
   ·
    rw [eq_nat] at e2
    exact .inl (by omega)
  ·
   subst e1
   rcases h2 with h2 | ⟨e2, h2⟩
   ·
    exact .inl h2
   ·
    exact .inr ⟨e2, trans h1 h2⟩
theorem total : ∀ a b : T, less a b = true ∨ a = b ∨ less b a = true
 | [], [] => .inr (.inl rfl)
 | [], b :: y => .inl (nil_less b y)
 | a :: x, [] => .inr (.inr (nil_less a x))
 | a :: x, b :: y => by
  rw [less_iff, less_iff]
  rcases Nat.lt_trichotomy a.toNat b.toNat with h | h | h
  ·
   exact .inl (.inl h)
  ·
   have e := eq_nat.mpr h
   subst e
   rcases total x y with h | h | h
   ·
    exact .inl (.inr ⟨rfl, h⟩)
   ·
    exact .inr (.inl (by rw [h]))
   ·
    exact .inr (.inr (.inr ⟨rfl, h⟩))
  ·
   exact .inr (.inr (.inl h))
theorem asymm {a b : T} (h : less a b = true) : less b a = false := by
 rw [Bool.eq_false_iff]
 intro h2
 have := trans h h2
 rw [irrefl] at this
 cases this
theorem ne_of {a b : T} (h : less a b = true) : a ≠ b := by
 intro e
 subst e
 rw [irrefl] at h
 cases h
theorem cmp_cases : ∀ a b : T, (less a b = true ∧ Lib.compareBytes a b = -1) ∨ (a = b ∧ Lib.compareBytes a b = 0) ∨ (less b a = true ∧ Lib.compareBytes a b = 1)
 | [], [] => .inr (.inl ⟨rfl, rfl⟩)
 | [], b :: y => .inl ⟨nil_less b y, rfl⟩
 | a :: x, [] => .inr (.inr ⟨nil_less a x, rfl⟩)
 | a :: x, b :: y => by
  unfold Lib.compareBytes
  rcases Nat.lt_trichotomy a.toNat b.toNat with h | h | h
  ·
   exact .inl ⟨(less_iff a b x y).mpr (.inl h), if_pos (lt_nat.mpr h)⟩
  ·
   have e := eq_nat.mpr h
   subst e
   rw [if_neg (fun h => by rw [lt_nat] at h; omega), if_neg (fun h => by rw [lt_nat] at h; omega)]
   rcases cmp_cases x y with ⟨h1, h2⟩ | ⟨h1, h2⟩ | ⟨h1, h2⟩
   ·
    exact .inl ⟨(less_iff a a x y).mpr (.inr ⟨rfl, h1⟩), h2⟩
   ·
    exact .inr (.inl ⟨by rw [h1], h2⟩)
   ·
    exact .inr (.inr ⟨(less_iff a a y x).mpr (.inr ⟨rfl, h1⟩), h2⟩)
  ·
   refine .inr (.inr ⟨(less_iff b a y x).mpr (.inl h), ?_⟩)
   rw [if_neg (fun h2 => by rw [lt_nat] at h2; omega), if_pos (lt_nat.mpr h)]
theorem cmp_neg (a b : T) : (Lib.compareBytes a b < 0) ↔ less a b = true := by
 rcases cmp_cases a b with ⟨h1, h2⟩ | ⟨h1, h2⟩ | ⟨h1, h2⟩
 ·
  rw [h1, h2]; simp
 ·
  subst h1
  rw [h2, irrefl]; simp
 ·
  rw [h2, asymm h1]; simp
theorem cmp_zero (a b : T) : (Lib.compareBytes a b = 0) ↔ a = b := by
 rcases cmp_cases a b with ⟨h1, h2⟩ | ⟨h1, h2⟩ | ⟨h1, h2⟩
 ·
  rw [h2]
  exact ⟨fun h => absurd h (by decide), fun h => absurd h (ne_of h1)⟩
 ·
  rw [h2]
  exact ⟨fun _ => h1, fun _ => rfl⟩
 ·
  rw [h2]
  exact ⟨fun h => absurd h (by decide), fun h => absurd h.symm (ne_of h1)⟩
end Go.Proofs.Ytofaindjbhmopaa.Ord
end
section
namespace Go.Proofs.Ytofaindjbhmopaa.Pure
open Go.RowKit Go.Proofs.Ytofaindjbhmopaa.X Go.Proofs.YtofaindjbhmopaaW.PrintWords Go.Proofs.YtofaindjbhmopaaW.PrintLast Go.Proofs.YtofaindjbhmopaaW.PrintMore Go.Proofs.Ytofaindjbhmopaa.Aid
open Go.Proofs.Ytofaindjbhmopaa.Ord (less)
abbrev T := List UInt8
def bl (s : ByteArray) : T := s.data.toList
theorem bl_toList (s : ByteArray) : s.toList = bl s := ByteArray.toList_eq s
abbrev Key := Int × T
def lt (a b : Key) : Bool := decide (a.1 < b.1) || (decide (a.1 = b.1) && less a.2 b.2)
theorem lt_iff (a b : Key) : lt a b = true ↔ a.1 < b.1 ∨ (a.1 = b.1 ∧ less a.2 b.2 = true) := by
 unfold lt
 rw [Bool.or_eq_true, Bool.and_eq_true, decide_eq_true_eq, decide_eq_true_eq]
theorem lt_irrefl (a : Key) : lt a a = false := by
 rw [Bool.eq_false_iff]
 intro h
 rcases (lt_iff a a).mp h with h | ⟨_, h⟩
 ·
  omega
 ·
  rw [Ord.irrefl] at h
  cases h
theorem lt_trans {a b c : Key} (h1 : lt a b = true) (h2 : lt b c = true) : lt a c = true := by
 rw [lt_iff] at h1 h2 ⊢
 rcases h1 with h1 | ⟨e1, h1⟩
 ·
  rcases h2 with h2 | ⟨e2, _⟩
  ·
   exact .inl (by omega)
  ·
   exact .inl (by omega)
 ·
  rcases h2 with h2 | ⟨e2, h2⟩
  ·
   exact .inl (by omega)
  ·
   exact .inr ⟨by omega, Ord.trans h1 h2⟩
theorem lt_total (a b : Key) : lt a b = true ∨ a = b ∨ lt b a = true := by
 rw [lt_iff, lt_iff]
 rcases Int.lt_trichotomy a.1 b.1 with h | h | h
 ·
  exact .inl (.inl h)
 ·
  rcases Ord.total a.2 b.2 with h2 | h2 | h2
  ·
   exact .inl (.inr ⟨h, h2⟩)
  ·
   exact .inr (.inl (Prod.ext h h2))
  ·
   exact .inr (.inr (.inr ⟨h.symm, h2⟩))
 ·
  exact .inr (.inr (.inl h))
theorem lt_ne {a b : Key} (h : lt a b = true) : a ≠ b := by
 intro e
 subst e
 rw [lt_irrefl] at h
 cases h
def keyE (e : E) : Key := (e.f0, bl e.f1)
def kw (w : Int) (s : ByteArray) : Key := (w, bl s)
theorem kw_inj {w1 w2 : Int} {k1 k2 : ByteArray} : kw w1 k1 = kw w2 k2 ↔ w1 = w2 ∧ k1 = k2 := by
 refine ⟨fun h => ⟨congrArg Prod.fst h, ?_⟩, fun h => by rw [h.1, h.2]⟩
 exact ByteArray.ext (Array.toList_inj.1 (congrArg Prod.snd h))
def pos (q : Key) : List E → Nat
 | [] => 0
 | e :: l => if lt (keyE e) q = true then pos q l + 1 else 0
theorem pos_le (q : Key) : ∀ l : List E, pos q l ≤ l.length
 | [] => Nat.le_refl _
 | e :: l => by
  unfold pos
  split
  ·
   have := pos_le q l
   rw [List.length_cons]
   omega
  ·
   exact Nat.zero_le _
theorem pos_lt (q : Key) : ∀ (l : List E) (i : Nat) (h : i < l.length), i < pos q l → lt (keyE l[i]) q = true
 | e :: l, i, h, hi => by
  unfold pos at hi
  split at hi
  ·
   rename_i hp
   cases i with
   | zero => exact hp
   | succ i => exact pos_lt q l i (by simpa using h) (by omega)
  ·
   omega
theorem pos_at (q : Key) : ∀ (l : List E) (h : pos q l < l.length), ¬ lt (keyE l[pos q l]) q = true
 | e :: l, h => by
  by_cases hp : lt (keyE e) q = true
  ·
   have e' : pos q (e :: l) = pos q l + 1 := by rw [pos, if_pos hp]
   have h' : pos q l < l.length := by rw [e'] at h; simpa using h
   have := pos_at q l h'
   simp only [e', List.getElem_cons_succ]
   exact this
  ·
   have e' : pos q (e :: l) = 0 := by rw [pos, if_neg hp]
   simp only [e', List.getElem_cons_zero]
   exact hp
def isAt (q : Key) (l : List E) : Bool := if h : pos q l < l.length then decide (keyE l[pos q l] = q) else false
def Rise (l : List E) : Prop := l.Pairwise fun a b => lt (keyE a) (keyE b) = true
theorem rise_at {l : List E} (h : Rise l) {i j : Nat} (hij : i < j) (hj : j < l.length) : lt (keyE (l[i]'(by omega))) (keyE l[j]) = true :=
 List.pairwise_iff_getElem.1 h i j (by omega) hj hij
end Go.Proofs.Ytofaindjbhmopaa.Pure
end
section
namespace Go.Proofs.Ytofaindjbhmopaa.Pure
open Go.RowKit Go.Proofs.Ytofaindjbhmopaa.X Go.Proofs.YtofaindjbhmopaaW.PrintWords Go.Proofs.YtofaindjbhmopaaW.PrintLast Go.Proofs.YtofaindjbhmopaaW.PrintMore Go.Proofs.Ytofaindjbhmopaa.Aid
def rightFrom (last : Int) : List W → Bool
 | [] => true
 | x :: l => if x.f0 ≤ last then false else if x.f0 > 1000000000000000 then false else rightFrom x.f0 l
theorem right_cons (last : Int) (x : W) (l : List W) : rightFrom last (x :: l) = if x.f0 ≤ last then false else if x.f0 > 1000000000000000 then false else rightFrom x.f0 l := rfl
theorem rright_l0 {l : List W} (hn : l.length < LM) (d : Nat) : ∀ (i k : Nat) (last : Int), i + d = l.length → d < k → (i = 0 → last = 0) → (∀ h : 0 < i ∧ i - 1 < l.length, last = (l[i - 1]'h.2).f0 ∧ 1 ≤ last) →
 r10_Right.l0 k l (i : Int) = some (rightFrom last (l.drop i)) := by
 have hn' := hn
 unfold LM at hn'
 induction d with
 | zero =>
  intro i k last hi hk _ _
  obtain ⟨k, rfl⟩ := succ_of hk
  simp only [r10_Right.l0]
  rw [if_neg (by omega), List.drop_of_length_le (by omega)]
  rfl
 | succ d ih =>
  intro i k last hi hk h0 h1
  obtain ⟨k, rfl⟩ := succ_of hk
  have hlt : i < l.length := by omega
  have hl0 : 0 ≤ last := by
   by_cases e : i = 0
   ·
    rw [h0 e]
    exact Int.le_refl _
   ·
    have := (h1 ⟨by omega, by omega⟩).2
    omega
  simp only [r10_Right.l0]
  rw [if_pos (by omega), if_pos (by omega), rdW hlt, drop_at hlt, w64s (by omega)]
  rw [right_cons]
  by_cases c1 : l[i].f0 < 1
  ·
   rw [if_pos c1, if_pos (by omega)]
  ·
   rw [if_neg c1]
   by_cases c2 : l[i].f0 > 1000000000000000
   ·
    rw [if_pos c2]
    by_cases c3 : l[i].f0 ≤ last
    ·
     rw [if_pos c3]
    ·
     rw [if_neg c3, if_pos c2]
   ·
    rw [if_neg c2]
    have hs := ih (i + 1) k l[i].f0 (by omega) (by omega) (by omega) (fun _ => ⟨rfl, by omega⟩)
    by_cases e : i = 0
    ·
     subst e
     rw [if_neg (by omega), hs, if_neg (by have := h0 rfl; omega), if_neg c2]
    ·
     obtain ⟨e1, e2⟩ := h1 ⟨by omega, by omega⟩
     have hp : i - 1 < l.length := by omega
     have hc : ((i : Int) - 1) = ((i - 1 : Nat) : Int) := by omega
     rw [if_pos (by omega), w64p (by omega), hc, if_pos (by omega), if_pos (by omega), rdW hp, ← e1]
     by_cases c3 : l[i].f0 ≤ last
     ·
      rw [if_pos (show last ≥ l[i].f0 from c3), if_pos c3]
     ·
      rw [if_neg (show ¬ last ≥ l[i].f0 from c3), if_neg c3, if_neg c2, hs]
theorem rright_eq {l : List W} (hn : l.length < LM) (k : Nat) (hk : l.length < k) : r10_Right.f k l = some (rightFrom 0 l) :=
 rright_l0 hn l.length 0 k 0 (by omega) hk (fun _ => rfl) (fun h => absurd h.1 (by omega))
end Go.Proofs.Ytofaindjbhmopaa.Pure
end
section
namespace Go.Proofs.Ytofaindjbhmopaa.Pure
open Go.RowKit Go.Proofs.Ytofaindjbhmopaa.X Go.Proofs.YtofaindjbhmopaaW.PrintWords Go.Proofs.YtofaindjbhmopaaW.PrintLast Go.Proofs.YtofaindjbhmopaaW.PrintMore Go.Proofs.Ytofaindjbhmopaa.Aid
open Go.Proofs.Ytofaindjbhmopaa.Ord (less)
def behind (p : Option Key) (q : Key) : Bool := match p with | none => true | some a => lt a q
theorem behind_some (a q : Key) : behind (some a) q = lt a q := rfl
def okE : Option Key → List E → Bool
 | _, [] => true
 | p, e :: l => if e.f2.length = 0 then false else if rightFrom 0 e.f2 = true then (if behind p (keyE e) = true then okE (some (keyE e)) l else false) else false
theorem okE_cons (p : Option Key) (e : E) (l : List E) : okE p (e :: l) = if e.f2.length = 0 then false else if rightFrom 0 e.f2 = true then (if behind p (keyE e) = true then okE (some (keyE e)) l else false) else false := rfl
def prevE (l : List E) (i : Nat) : Option Key := if i = 0 then none else (l[i - 1]?).map keyE
theorem prevE_succ {l : List E} {i : Nat} (h : i < l.length) : prevE l (i + 1) = some (keyE l[i]) := by
 unfold prevE
 rw [if_neg (by omega), Nat.add_sub_cancel, List.getElem?_eq_getElem h]
 rfl
theorem prevE_at {l : List E} {i : Nat} (h0 : i ≠ 0) (h : i - 1 < l.length) : prevE l i = some (keyE l[i - 1]) := by
 unfold prevE
 rw [if_neg h0, List.getElem?_eq_getElem h]
 rfl
theorem rless_eq (x : E) (w : Int) (s : ByteArray) : r11_less.f x.f0 x.f1 x.f2 w s = some (lt (keyE x) (kw w s)) := by
 unfold r11_less.f lt keyE kw
 rw [bl_toList, bl_toList]
 dsimp only
 by_cases c1 : x.f0 < w
 ·
  rw [if_pos c1, decide_eq_true c1, Bool.true_or]
 ·
  rw [if_neg c1, decide_eq_false c1, Bool.false_or]
  by_cases c2 : x.f0 = w
  ·
   rw [if_pos c2, decide_eq_true c2, Bool.true_and]
  ·
   rw [if_neg c2, decide_eq_false c2, Bool.false_and]
theorem srright_l0 {l : List E} (hl : small1 l) (d : Nat) : ∀ (i k : Nat), i + d = l.length → d + 110 < k → r11_Right.l0 k (i : Int) l = some (okE (prevE l i) (l.drop i)) := by
 have hn := hl.1
 induction d with
 | zero =>
  intro i k hi hk
  obtain ⟨k, rfl⟩ := succ_of hk
  simp only [r11_Right.l0]
  rw [if_neg (by omega), List.drop_of_length_le (by omega)]
  rfl
 | succ d ih =>
  intro i k hi hk
  obtain ⟨k, rfl⟩ := succ_of hk
  have hlt : i < l.length := by omega
  have hs := small1_at hl hlt
  simp only [r11_Right.l0]
  rw [if_pos (by omega), if_pos (by omega), rdE hlt, drop_at hlt, w64s (by omega), ih (i + 1) k (by omega) (by omega), prevE_succ hlt, okE_cons, rright_eq (l := l[i].f2) (by unfold LM; omega) k (by omega)]
  simp only [Option.bind_some]
  by_cases c1 : l[i].f2.length = 0
  ·
   rw [if_pos (by omega), if_pos c1]
  ·
   rw [if_neg (by omega), if_neg c1]
   by_cases c2 : rightFrom 0 l[i].f2 = true
   ·
    rw [if_pos c2, if_pos c2]
    by_cases c3 : i = 0
    ·
     subst c3
     rw [if_neg (by omega)]
     rfl
    ·
     have hp : i - 1 < l.length := by omega
     have hc : ((i : Int) - 1) = ((i - 1 : Nat) : Int) := by omega
     rw [if_pos (by omega), w64p (by omega), hc, if_pos (by omega), if_pos (by omega), rdE hp, rless_eq]
     simp only [Option.bind_some]
     rw [prevE_at c3 hp, behind_some]
     have e : kw l[i].f0 l[i].f1 = keyE l[i] := rfl
     rw [e]
     by_cases c4 : lt (keyE l[i - 1]) (keyE l[i]) = true
     ·
      rw [if_pos c4, if_pos c4]
     ·
      rw [if_neg c4, if_neg c4]
   ·
    rw [if_neg c2, if_neg c2]
theorem srright_eq {l : List E} (hl : small1 l) (k : Nat) (hk : l.length + 110 < k) : r11_Right.f k l = some (okE none l) := by
 have h := srright_l0 hl l.length 0 k (by omega) hk
 rw [List.drop_zero] at h
 exact h
theorem okE_rise : ∀ {l : List E} {p : Option Key}, okE p l = true → Rise l ∧ (∀ q, p = some q → ∀ e ∈ l, lt q (keyE e) = true) ∧ ∀ e ∈ l, e.f2.length ≠ 0 ∧ rightFrom 0 e.f2 = true
 | [], p, _ => ⟨List.Pairwise.nil, (fun _ _ e he => by cases he), (fun e he => by cases he)⟩
 | x :: l, p, h => by
  rw [okE_cons] at h
  by_cases c1 : x.f2.length = 0
  ·
   rw [if_pos c1] at h
   cases h
  ·
   rw [if_neg c1] at h
   by_cases c2 : rightFrom 0 x.f2 = true
   ·
    rw [if_pos c2] at h
    by_cases c3 : behind p (keyE x) = true
    ·
     rw [if_pos c3] at h
     obtain ⟨h1, h2, h3⟩ := okE_rise h
     have h2' := h2 _ rfl
     refine ⟨List.pairwise_cons.2 ⟨h2', h1⟩, ?_, ?_⟩
     ·
      intro q hq e he
      subst hq
      rcases List.mem_cons.1 he with rfl | he
      ·
       exact c3
      ·
       exact lt_trans c3 (h2' e he)
     ·
      intro e he
      rcases List.mem_cons.1 he with rfl | he
      ·
       exact ⟨c1, c2⟩
      ·
       exact h3 e he
    ·
     rw [if_neg c3] at h
     cases h
   ·
    rw [if_neg c2] at h
    cases h
theorem okE_of : ∀ {l : List E} {p : Option Key}, Rise l → (∀ q, p = some q → ∀ e ∈ l, lt q (keyE e) = true) → (∀ e ∈ l, e.f2.length ≠ 0 ∧ rightFrom 0 e.f2 = true) → okE p l = true
 | [], _, _, _, _ => rfl
 | x :: l, p, h1, h2, h3 => by
  have hx := h3 x List.mem_cons_self
  have hp := List.pairwise_cons.1 h1
  rw [okE_cons, if_neg hx.1, if_pos hx.2]
  have hb : behind p (keyE x) = true := by
   cases p with
   | none => rfl
   | some q => exact h2 q rfl x List.mem_cons_self
  rw [if_pos hb]
  exact okE_of hp.2 (fun q hq e he => by cases hq; exact hp.1 e he) (fun e he => h3 e (List.mem_cons_of_mem _ he))
end Go.Proofs.Ytofaindjbhmopaa.Pure
end
section
namespace Go.Proofs.Ytofaindjbhmopaa.Pure
open Go.RowKit Go.Proofs.Ytofaindjbhmopaa.X Go.Proofs.YtofaindjbhmopaaW.PrintWords Go.Proofs.YtofaindjbhmopaaW.PrintLast Go.Proofs.YtofaindjbhmopaaW.PrintMore Go.Proofs.Ytofaindjbhmopaa.Aid
def ordE (w1 : Int) (k1 : ByteArray) (w2 : Int) (k2 : ByteArray) : Int := if w1 < w2 then -1 else if w1 > w2 then 1 else Lib.compareBytes k1.data.toList k2.data.toList
theorem or_two (a b : Int) (k : Nat) (hk : 2 < k) : cmp_Or_int.f k [a, b] = some (if a = 0 then b else a) := by
 obtain ⟨k, rfl⟩ := succ_of hk
 obtain ⟨k, rfl⟩ := succ_of (show 1 < k by omega)
 obtain ⟨k, rfl⟩ := succ_of (show 0 < k by omega)
 have e1 : wrap64 (0 + 1) = 1 := w64 (a := 0 + 1) (by omega) (by omega)
 have e2 : wrap64 (1 + 1) = 2 := w64 (a := 1 + 1) (by omega) (by omega)
 have r0 : rd [a, b] 0 = a := rfl
 have r1 : rd [a, b] 1 = b := rfl
 simp only [cmp_Or_int.f, cmp_Or_int.l0, List.length_cons, List.length_nil, e1, e2, r0, r1]
 by_cases ha : a = 0
 ·
  by_cases hb : b = 0
  ·
   simp [ha, hb]
  ·
   simp [ha, hb]
 ·
  simp [ha]
theorem order_eq (w1 : Int) (k1 : ByteArray) (l1 : List W) (w2 : Int) (k2 : ByteArray) (l2 : List W) (k : Nat) (hk : 2 < k) : shard_order.f k w1 k1 l1 w2 k2 l2 = some (ordE w1 k1 w2 k2) := by
 have h1 : cmp_Compare_int64.f w1 w2 = some (if w1 < w2 then -1 else if w1 > w2 then 1 else 0) := by
  simp only [cmp_Compare_int64.f, cmp_isNaN_int64.f, Option.bind_some, bne_self_eq_false]
  rw [if_neg (by decide), if_neg (by decide)]
  split
  ·
   rfl
  ·
   split <;> rfl
 unfold shard_order.f
 rw [h1]
 simp only [Option.bind_some, strings_Compare.f]
 rw [or_two _ _ k hk]
 simp only [Option.bind_some]
 unfold ordE
 congr 1
 by_cases c1 : w1 < w2
 ·
  simp [c1]
 ·
  by_cases c2 : w1 > w2
  ·
   simp [c1, c2]
  ·
   simp [c1, c2]
theorem ord_zero {w1 : Int} {k1 : ByteArray} {w2 : Int} {k2 : ByteArray} : ordE w1 k1 w2 k2 = 0 ↔ w1 = w2 ∧ k1 = k2 := by
 unfold ordE
 by_cases c1 : w1 < w2
 ·
  rw [if_pos c1]
  exact ⟨fun h => by omega, fun h => by omega⟩
 ·
  rw [if_neg c1]
  by_cases c2 : w1 > w2
  ·
   rw [if_pos c2]
   exact ⟨fun h => by omega, fun h => by omega⟩
  ·
   rw [if_neg c2, Ord.cmp_zero]
   refine ⟨fun h => ⟨by omega, ?_⟩, fun h => by rw [h.2]⟩
   exact ByteArray.ext (Array.toList_inj.1 h)
end Go.Proofs.Ytofaindjbhmopaa.Pure
end
section
namespace Go.Proofs.Ytofaindjbhmopaa.Pure
open Go.RowKit Go.Proofs.Ytofaindjbhmopaa.X Go.Proofs.YtofaindjbhmopaaW.PrintWords Go.Proofs.YtofaindjbhmopaaW.PrintLast Go.Proofs.YtofaindjbhmopaaW.PrintMore Go.Proofs.Ytofaindjbhmopaa.Aid
open Go.Proofs.Ytofaindjbhmopaa.Ord (less)
theorem ord_neg {w1 : Int} {k1 : ByteArray} {w2 : Int} {k2 : ByteArray} : ordE w1 k1 w2 k2 < 0 ↔ lt (kw w1 k1) (kw w2 k2) = true := by
 rw [lt_iff]
 unfold ordE kw
 have e : Lib.compareBytes k1.data.toList k2.data.toList < 0 ↔ less (bl k1) (bl k2) = true := Ord.cmp_neg _ _
 show _ ↔ w1 < w2 ∨ (w1 = w2 ∧ less (bl k1) (bl k2) = true)
 rw [← e]
 by_cases c1 : w1 < w2
 ·
  rw [if_pos c1]
  exact ⟨fun _ => .inl c1, fun _ => by decide⟩
 ·
  rw [if_neg c1]
  by_cases c2 : w1 > w2
  ·
   rw [if_pos c2]
   exact ⟨fun h => absurd h (by decide), fun h => by omega⟩
  ·
   rw [if_neg c2]
   exact ⟨fun h => .inr ⟨by omega, h⟩, fun h => by rcases h with h | ⟨_, h⟩; omega; exact h⟩
end Go.Proofs.Ytofaindjbhmopaa.Pure
end
section
namespace Go.Proofs.Ytofaindjbhmopaa.Pure
open Go.RowKit Go.Proofs.Ytofaindjbhmopaa.X Go.Proofs.YtofaindjbhmopaaW.PrintWords Go.Proofs.YtofaindjbhmopaaW.PrintLast Go.Proofs.YtofaindjbhmopaaW.PrintMore Go.Proofs.Ytofaindjbhmopaa.Aid
abbrev C := Int × Int × Bool × Int × Int
def zc : C := (0, 0, false, 0, 0)
def ce (x : S52) : C := (x.f0, x.f1.f0, x.f1.f1, x.f2, x.f3)
def ec (c : C) : S52 := ⟨c.1, ⟨c.2.1, c.2.2.1⟩, c.2.2.2.1, c.2.2.2.2⟩
theorem ce_ec (c : C) : ce (ec c) = c := rfl
end Go.Proofs.Ytofaindjbhmopaa.Pure
end
section
namespace Go.Proofs.Ytofaindjbhmopaa.Pure
open Go.RowKit Go.Proofs.Ytofaindjbhmopaa.X Go.Proofs.YtofaindjbhmopaaW.PrintWords Go.Proofs.YtofaindjbhmopaaW.PrintLast Go.Proofs.YtofaindjbhmopaaW.PrintMore Go.Proofs.Ytofaindjbhmopaa.Aid
def MX : Int := 9223372036854775807
def MI : Int := -9223372036854775808
def inr (a : Int) : Prop := MI ≤ a ∧ a ≤ MX
def sadd (a : Int) (oa : Bool) (b : Int) (ob : Bool) : Int × Bool :=
 if oa = true then (a, oa) else if ob = true then (b, ob) else if a + b > MX then (MX, true) else if a + b < MI then (MI, true) else (a + b, false)
theorem sat_add {a b : Int} (ha : inr a) (hb : inr b) (oa ob : Bool) (k : Nat) (hk : 0 < k) : sat_Add.f k a oa b ob = some (sadd a oa b ob) := by
 obtain ⟨k, rfl⟩ := succ_of hk
 unfold inr MX MI at ha hb
 unfold sat_Add.f sadd MX MI
 by_cases h1 : oa = true
 ·
  rw [if_pos h1, if_pos h1]
 ·
  rw [if_neg h1, if_neg h1]
  by_cases h2 : ob = true
  ·
   rw [if_pos h2, if_pos h2]
  ·
   rw [if_neg h2, if_neg h2]
   simp only [sat_Add.j0, sat_Of.f, Option.bind_some]
   by_cases c1 : a + b > 9223372036854775807
   ·
    have hw : wrap64 (a + b) = a + b - 18446744073709551616 := by unfold wrap64; omega
    rw [hw, if_pos (show a > 0 by omega), if_pos (show b > 0 by omega), if_pos (by simp; omega), if_pos c1]
   ·
    rw [if_neg c1]
    by_cases c2 : a + b < -9223372036854775808
    ·
     have hw : wrap64 (a + b) = a + b + 18446744073709551616 := by unfold wrap64; omega
     rw [hw, if_pos c2, if_neg (show ¬ a > 0 by omega), if_neg (by simp), if_pos (show a < 0 by omega), if_pos (show b < 0 by omega), if_pos (by omega)]
    ·
     rw [if_neg c2, w64 (by omega) (by omega)]
     by_cases d1 : a > 0
     ·
      rw [if_pos d1]
      by_cases d2 : b > 0
      ·
       rw [if_pos d2, if_neg (by simp; omega), if_neg (by omega)]
      ·
       rw [if_neg d2, if_neg (by simp), if_neg (by omega)]
     ·
      rw [if_neg d1, if_neg (by simp)]
      by_cases d2 : a < 0
      ·
       rw [if_pos d2]
       by_cases d3 : b < 0
       ·
        rw [if_pos d3, if_neg (by omega)]
       ·
        rw [if_neg d3]
      ·
       rw [if_neg d2]
theorem ref_add {a b : Int} (ha : inr a) (hb : inr b) (oa ob : Bool) (k : Nat) (hk : 0 < k) : r01_Add.f k a oa b ob = some (sadd a oa b ob) := by
 obtain ⟨k, rfl⟩ := succ_of hk
 unfold inr MX MI at ha hb
 unfold r01_Add.f sadd MX MI
 by_cases h1 : oa = true
 ·
  rw [if_pos h1, if_pos h1]
 ·
  rw [if_neg h1, if_neg h1]
  by_cases h2 : ob = true
  ·
   rw [if_pos h2, if_pos h2]
  ·
   rw [if_neg h2, if_neg h2]
   simp only [r01_Add.j0]
   by_cases d1 : a > 0
   ·
    rw [if_pos d1, w64 (a := 9223372036854775807 - a) (by omega) (by omega)]
    by_cases c1 : a + b > 9223372036854775807
    ·
     rw [if_pos (by simp; omega), if_pos c1]
    ·
     rw [if_neg (by simp; omega), if_neg c1, if_neg (show ¬ a < 0 by omega), if_neg (show ¬ a + b < -9223372036854775808 by omega), w64 (by omega) (by omega)]
   ·
    rw [if_neg d1, if_neg (by simp), if_neg (show ¬ a + b > 9223372036854775807 by omega)]
    by_cases d2 : a < 0
    ·
     rw [if_pos d2, w64 (a := -9223372036854775808 - a) (by omega) (by omega)]
     by_cases c2 : a + b < -9223372036854775808
     ·
      rw [if_pos (by omega), if_pos c2]
     ·
      rw [if_neg (by omega), if_neg c2, w64 (by omega) (by omega)]
    ·
     rw [if_neg d2, if_neg (show ¬ a + b < -9223372036854775808 by omega), w64 (by omega) (by omega)]
def WC (c : C) : Prop := inr c.1 ∧ inr c.2.1 ∧ inr c.2.2.2.1 ∧ inr c.2.2.2.2
def csum (a b : Int) : Int := if a + b > MX then MX else a + b
def ctwo (a b : C) : C :=
 if b.1 < 1 then a else if a.1 < 1 then b else (csum a.1 b.1, (sadd a.2.1 a.2.2.1 b.2.1 b.2.2.1).1, (sadd a.2.1 a.2.2.1 b.2.1 b.2.2.1).2, mn a.2.2.2.1 b.2.2.2.1, mx a.2.2.2.2 b.2.2.2.2)
theorem two_eq {a b : C} (ha : WC a) (hb : WC b) (k : Nat) (hk : 0 < k) :
 cell_two.f k a.1 a.2.1 a.2.2.1 a.2.2.2.1 a.2.2.2.2 b.1 b.2.1 b.2.2.1 b.2.2.2.1 b.2.2.2.2 = some (ctwo a b) := by
 obtain ⟨a1, a2, a3, a4, a5⟩ := a
 obtain ⟨b1, b2, b3, b4, b5⟩ := b
 obtain ⟨wa1, wa2, _, _⟩ := ha
 obtain ⟨wb1, wb2, _, _⟩ := hb
 simp only at wa1 wa2 wb1 wb2 ⊢
 unfold cell_two.f cell_Empty.f ctwo
 simp only [Option.bind_some, decide_eq_true_eq]
 by_cases h1 : b1 < 1
 ·
  rw [if_pos h1, if_pos h1]
 ·
  rw [if_neg h1, if_neg h1]
  by_cases h2 : a1 < 1
  ·
   rw [if_pos h2, if_pos h2]
  ·
   rw [if_neg h2, if_neg h2]
   rw [sat_add wa2 wb2 a3 b3 k hk]
   unfold cell_counts.f csum
   unfold inr MX MI at *
   rw [w64 (a := 9223372036854775807 - b1) (by omega) (by omega)]
   by_cases h3 : a1 + b1 > 9223372036854775807
   ·
    rw [if_pos (by omega), if_pos h3]
    rfl
   ·
    rw [if_neg (by omega), if_neg h3, w64 (by omega) (by omega)]
    rfl
def one (v : Int) : C := (1, v, false, v, v)
def cfold (c : C) (v : Int) : C := ctwo c (one v)
theorem one_wc {v : Int} (h : inr v) : WC (one v) := ⟨by unfold one inr MX MI; simp, h, h, h⟩
theorem fold_eq {c : C} {v : Int} (hc : WC c) (hv : inr v) (k : Nat) (hk : 0 < k) : cell_Fold.f k c.1 c.2.1 c.2.2.1 c.2.2.2.1 c.2.2.2.2 v = some (cfold c v) := by
 have h := two_eq hc (one_wc hv) k hk
 simp only [one] at h
 simp only [cell_Fold.f, cell_single.f, sat_Of.f, Option.bind_some, h]
 rfl
theorem ref_fold {c : C} {v : Int} (hc : WC c) (hv : inr v) (k : Nat) (hk : 1 < k) : r06_Fold.f k c.1 c.2.1 c.2.2.1 c.2.2.2.1 c.2.2.2.2 v = some (cfold c v) := by
 obtain ⟨c1, c2, c3, c4, c5⟩ := c
 obtain ⟨w1, w2, _, _⟩ := hc
 obtain ⟨k, rfl⟩ := succ_of hk
 have ha := ref_add w2 hv c3 false k (by omega)
 simp only at ha w1 w2 ⊢
 unfold r06_Fold.f cfold ctwo one
 simp only
 rw [if_neg (show ¬ (1 : Int) < 1 by omega)]
 by_cases h1 : c1 < 1
 ·
  rw [if_pos h1, if_pos h1]
 ·
  rw [if_neg h1, if_neg h1]
  have hj : ∀ n : Int, r06_Fold.j0 (k + 1) v n c2 c3 c4 c5 = some (n, (sadd c2 c3 v false).1, (sadd c2 c3 v false).2, mn c4 v, mx c5 v) := by
   intro n
   simp only [r06_Fold.j0, ha, Option.bind_some]
   unfold mn mx
   by_cases e1 : v < c4
   ·
    rw [if_pos e1, if_pos e1]
    by_cases e2 : v > c5
    ·
     rw [if_pos e2, if_pos (show c5 < v from e2)]
    ·
     rw [if_neg e2, if_neg (show ¬ c5 < v from e2)]
   ·
    rw [if_neg e1, if_neg e1]
    by_cases e2 : v > c5
    ·
     rw [if_pos e2, if_pos (show c5 < v from e2)]
    ·
     rw [if_neg e2, if_neg (show ¬ c5 < v from e2)]
  rw [hj, hj]
  unfold csum
  unfold inr MX MI at *
  by_cases h2 : c1 < 9223372036854775807
  ·
   rw [if_pos h2, if_neg (by omega), w64 (by omega) (by omega)]
  ·
   rw [if_neg h2, if_pos (by omega)]
   have : c1 = 9223372036854775807 := by omega
   rw [this]
theorem zc_wc : WC zc := by unfold WC zc inr MX MI; simp
theorem inr_of {a : Int} (h : (Lit.int .i64 a).wf = true) : inr a := wf64 h
end Go.Proofs.Ytofaindjbhmopaa.Pure
end
section
namespace Go.Proofs.Ytofaindjbhmopaa.Pure
open Go.RowKit Go.Proofs.Ytofaindjbhmopaa.X Go.Proofs.YtofaindjbhmopaaW.PrintWords Go.Proofs.YtofaindjbhmopaaW.PrintLast Go.Proofs.YtofaindjbhmopaaW.PrintMore Go.Proofs.Ytofaindjbhmopaa.Aid
theorem rdWW {l : List (List W)} {i : Nat} (h : i < l.length) : rd_L6 l (i : Int) = l[i] := getD_at h _
theorem flat_take {α : Type} {ll : List (List α)} {i : Nat} (h : i < ll.length) : (ll.take (i + 1)).flatten = (ll.take i).flatten ++ ll[i] := by
 rw [take_at h, List.flatten_append]
 simp
theorem flat_le {α : Type} (ll : List (List α)) (i : Nat) : (ll.take i).flatten.length ≤ ll.flatten.length := by
 conv => rhs; rw [← List.take_append_drop i ll, List.flatten_append]
 rw [List.length_append]
 exact Nat.le_add_right _ _
theorem cat_l1 {ll : List (List W)} (hb : ll.flatten.length < LM) (hn : ll.length < LM) (d : Nat) : ∀ (i k : Nat) (acc : List W), i + d = ll.length → d < k → acc = (ll.take i).flatten →
 api_Version_60.l1 k acc ll (ll.length : Int) (i : Int) = some ll.flatten := by
 unfold LM at hb hn
 induction d with
 | zero =>
  intro i k acc hi hk ha
  obtain ⟨k, rfl⟩ := succ_of hk
  simp only [api_Version_60.l1]
  rw [if_neg (by omega), ha, List.take_of_length_le (by omega)]
 | succ d ih =>
  intro i k acc hi hk ha
  obtain ⟨k, rfl⟩ := succ_of hk
  have hlt : i < ll.length := by omega
  have h1 := flat_take hlt
  have h2 := flat_le ll (i + 1)
  rw [h1, List.length_append] at h2
  simp only [api_Version_60.l1]
  rw [if_pos (by omega), if_pos (by omega), if_pos (by omega), rdWW hlt, if_pos (by rw [ha]; omega), w64s (by omega)]
  exact ih (i + 1) k _ (by omega) (by omega) (by rw [ha, h1])
theorem cat_l0 {ll : List (List W)} (hb : ll.flatten.length < LM) (hn : ll.length < LM) (d : Nat) : ∀ (i k : Nat) (s : Int), i + d = ll.length → d + ll.length + 1 < k → s = ((ll.take i).flatten.length : Int) →
 api_Version_60.l0 k ll s ll (ll.length : Int) (i : Int) = some ll.flatten := by
 have hb' := hb
 have hn' := hn
 unfold LM at hb' hn'
 induction d with
 | zero =>
  intro i k s hi hk hs
  obtain ⟨k, rfl⟩ := succ_of hk
  have h2 := flat_le ll i
  simp only [api_Version_60.l0, api_Version_66.f]
  rw [if_neg (by omega), if_pos (by omega), if_pos (by omega)]
  exact cat_l1 hb hn ll.length 0 k [] (by omega) (by omega) (by simp)
 | succ d ih =>
  intro i k s hi hk hs
  obtain ⟨k, rfl⟩ := succ_of hk
  have hlt : i < ll.length := by omega
  have h1 := flat_take hlt
  have h2 := flat_le ll (i + 1)
  rw [h1, List.length_append] at h2
  simp only [api_Version_60.l0]
  have hw : wrap64 (s + (ll[i].length : Int)) = s + (ll[i].length : Int) := w64 (by omega) (by omega)
  rw [if_pos (by omega), if_pos (by omega), if_pos (by omega), rdWW hlt, hw, if_neg (by omega), w64s (by omega)]
  exact ih (i + 1) k _ (by omega) (by omega) (by rw [h1, List.length_append, hs]; omega)
theorem cat_eq {ll : List (List W)} (hb : ll.flatten.length < LM) (hn : ll.length < LM) (k : Nat) (hk : ll.length + ll.length + 1 < k) : api_Version_60.f k ll = some ll.flatten :=
 cat_l0 hb hn ll.length 0 k 0 (by omega) hk (by simp)
theorem right_l0 {l : List W} (hn : l.length < LM) (d : Nat) : ∀ (i k : Nat) (last : Int), i + d = l.length → d < k → chain_Right.l0 k last l (l.length : Int) (i : Int) = some (rightFrom last (l.drop i)) := by
 have hn' := hn
 unfold LM at hn'
 induction d with
 | zero =>
  intro i k last hi hk
  obtain ⟨k, rfl⟩ := succ_of hk
  simp only [chain_Right.l0]
  rw [if_neg (by omega), List.drop_of_length_le (by omega)]
  rfl
 | succ d ih =>
  intro i k last hi hk
  obtain ⟨k, rfl⟩ := succ_of hk
  have hlt : i < l.length := by omega
  simp only [chain_Right.l0]
  rw [if_pos (by omega), if_pos (by omega), if_pos (by omega), rdW hlt, drop_at hlt, w64s (by omega), ih (i + 1) k _ (by omega) (by omega)]
  rw [right_cons]
  by_cases h1 : l[i].f0 ≤ last
  ·
   rw [if_pos h1, if_pos h1]
  ·
   rw [if_neg h1, if_neg h1]
   by_cases h2 : l[i].f0 > 1000000000000000
   ·
    rw [if_pos h2, if_pos h2]
   ·
    rw [if_neg h2, if_neg h2]
theorem right_eq {l : List W} (hn : l.length < LM) (k : Nat) (hk : l.length < k) : chain_Right.f k l = some (rightFrom 0 l) := right_l0 hn l.length 0 k 0 (by omega) hk
def pushed (l m : List W) : List W × Int := if rightFrom 0 (l ++ m) = true then (l ++ m, 0) else ([], 9)
theorem push_eq {l m : List W} (hn : l.length + m.length < LM) (k : Nat) (hk : l.length + m.length + 5 < k) : chain_Put.f k l m = some (pushed l m) := by
 have hf : [l, m].flatten = l ++ m := by simp
 have hl : (l ++ m).length < LM := by rw [List.length_append]; exact hn
 have hc := cat_eq (ll := [l, m]) (by rw [hf]; exact hl) (by unfold LM; simp) k (by simp; omega)
 unfold chain_Put.f pushed
 rw [hc, hf]
 simp only [Option.bind_some]
 rw [right_eq hl k (by rw [List.length_append]; omega)]
 simp only [Option.bind_some]
 by_cases h : rightFrom 0 (l ++ m) = true
 ·
  rw [if_pos h, if_pos h]
 ·
  rw [if_neg h, if_neg h]
theorem pushed_le (l m : List W) : (pushed l m).1.length ≤ l.length + m.length := by
 unfold pushed
 split
 ·
  rw [List.length_append]
  exact Nat.le_refl _
 ·
  exact Nat.zero_le _
theorem wc_of {x : W} (h : Q82 x) : WC (ce x.f1) := ⟨inr_of h.2.1, inr_of h.2.2.1.1, inr_of h.2.2.2.1, inr_of h.2.2.2.2⟩
def lastc (l : List W) : C := (l[l.length - 1]?).elim zc fun x => ce x.f1
def foldv (l : List W) (s v : Int) : List W × Int := pushed l [⟨s, ec (cfold (lastc l) v)⟩]
theorem foldv_le (l : List W) (s v : Int) : (foldv l s v).1.length ≤ l.length + 1 := by
 have := pushed_le l [⟨s, ec (cfold (lastc l) v)⟩]
 rw [List.length_singleton] at this
 exact this
theorem fold_p {l : List W} (hl : l.length ≤ 200) (hq : ∀ x ∈ l, Q82 x) (s v : Int) (hv : inr v) (k : Nat) (hk : 300 < k) :
 chain_Fold.f k l s v = some (foldv l s v) := by
 have hput : ∀ x : W, chain_Put.f k l [x] = some (pushed l [x]) := fun x => push_eq (by rw [List.length_singleton]; unfold LM; omega) k (by rw [List.length_singleton]; omega)
 unfold chain_Fold.f foldv lastc
 by_cases c : (l.length : Int) > 0
 ·
  have hlt : l.length - 1 < l.length := by omega
  have hi : ((l.length : Int) - 1) = ((l.length - 1 : Nat) : Int) := by omega
  have hw := wc_of (hq _ (List.getElem_mem hlt))
  have h1 := fold_eq hw hv k (by omega)
  rw [List.getElem?_eq_getElem hlt]
  simp only [Option.elim_some]
  simp only [ce] at h1
  rw [if_pos c, w64p (by omega), hi, if_pos (by omega), if_pos (by omega), rdW hlt, h1]
  simp only [Option.bind_some]
  rw [hput]
  rfl
 ·
  have h1 := fold_eq zc_wc hv k (by omega)
  have e : l = [] := List.length_eq_zero_iff.1 (by omega)
  simp only [zc] at h1
  rw [if_neg c, h1]
  simp only [Option.bind_some]
  rw [hput, e]
  rfl
end Go.Proofs.Ytofaindjbhmopaa.Pure
end
section
namespace Go.Proofs.Ytofaindjbhmopaa.Pure
open Go.RowKit Go.Proofs.Ytofaindjbhmopaa.X Go.Proofs.YtofaindjbhmopaaW.PrintWords Go.Proofs.YtofaindjbhmopaaW.PrintLast Go.Proofs.YtofaindjbhmopaaW.PrintMore Go.Proofs.Ytofaindjbhmopaa.Aid
open Go.Proofs.Ytofaindjbhmopaa.Ord (less)
theorem ord_ge {x y : E} : ordE x.f0 x.f1 y.f0 y.f1 ≥ 0 ↔ ¬ lt (keyE x) (keyE y) = true := by
 have h := ord_neg (w1 := x.f0) (k1 := x.f1) (w2 := y.f0) (k2 := y.f1)
 have e : (kw x.f0 x.f1) = keyE x := rfl
 have e2 : (kw y.f0 y.f1) = keyE y := rfl
 rw [e, e2] at h
 rw [← h]
 omega
theorem sright_l0 {l : List E} (hl : small l) (d : Nat) : ∀ (i k : Nat), i + d = l.length → d + 110 < k → shard_Right.l0 k l (l.length : Int) (i : Int) l = some (okE (prevE l i) (l.drop i)) := by
 have hn := hl.1
 induction d with
 | zero =>
  intro i k hi hk
  obtain ⟨k, rfl⟩ := succ_of hk
  simp only [shard_Right.l0]
  rw [if_neg (by omega), List.drop_of_length_le (by omega)]
  rfl
 | succ d ih =>
  intro i k hi hk
  obtain ⟨k, rfl⟩ := succ_of hk
  have hlt : i < l.length := by omega
  have hs := small_at hl hlt
  simp only [shard_Right.l0]
  rw [if_pos (by omega), if_pos (by omega), if_pos (by omega), rdE hlt, drop_at hlt, w64s (by omega), ih (i + 1) k (by omega) (by omega), prevE_succ hlt, okE_cons, right_eq (l := l[i].f2) (by unfold LM; omega) k (by omega)]
  simp only [Option.bind_some]
  by_cases c1 : l[i].f2.length = 0
  ·
   rw [if_pos (by omega), if_pos c1]
  ·
   rw [if_neg (by omega), if_neg c1]
   by_cases c2 : rightFrom 0 l[i].f2 = true
   ·
    rw [if_pos c2, if_pos c2]
    by_cases c3 : i = 0
    ·
     subst c3
     rw [if_neg (by omega)]
     rfl
    ·
     have hp : i - 1 < l.length := by omega
     have hc : ((i : Int) - 1) = ((i - 1 : Nat) : Int) := by omega
     rw [if_pos (by omega), w64p (by omega), hc, if_pos (by omega), if_pos (by omega), rdE hp, order_eq _ _ _ _ _ _ k (by omega)]
     simp only [Option.bind_some]
     rw [prevE_at c3 hp, behind_some]
     by_cases c4 : lt (keyE l[i - 1]) (keyE l[i]) = true
     ·
      rw [if_neg (fun h => (ord_ge.1 h) c4), if_pos c4]
     ·
      rw [if_pos (ord_ge.2 c4), if_neg c4]
   ·
    rw [if_neg c2, if_neg c2]
theorem sright_eq {l : List E} (hl : small l) (k : Nat) (hk : l.length + 110 < k) : shard_Right.f k l = some (okE none l) := by
 have h := sright_l0 hl l.length 0 k (by omega) hk
 rw [List.drop_zero] at h
 exact h
end Go.Proofs.Ytofaindjbhmopaa.Pure
end
section
namespace Go.Proofs.Ytofaindjbhmopaa.Pure
open Go.RowKit Go.Proofs.Ytofaindjbhmopaa.X Go.Proofs.YtofaindjbhmopaaW.PrintWords Go.Proofs.YtofaindjbhmopaaW.PrintLast Go.Proofs.YtofaindjbhmopaaW.PrintMore Go.Proofs.Ytofaindjbhmopaa.Aid
open Go.Proofs.Ytofaindjbhmopaa.Ord (less)
theorem ord_lt {x : E} {w : Int} {s : ByteArray} : ordE x.f0 x.f1 w s < 0 ↔ lt (keyE x) (kw w s) = true := ord_neg
theorem ord_z {x : E} {w : Int} {s : ByteArray} : (ordE x.f0 x.f1 w s == 0) = decide (keyE x = kw w s) := by
 by_cases h : keyE x = kw w s
 ·
  rw [decide_eq_true h]
  exact beq_iff_eq.2 (ord_zero.2 (kw_inj.1 h))
 ·
  rw [decide_eq_false h]
  exact beq_eq_false_iff_ne.2 (fun h2 => h (kw_inj.2 (ord_zero.1 h2)))
theorem bs_l0 {l : List E} (hl : l.length ≤ 100) (ho : Rise l) (w : Int) (s : ByteArray) (y : List W) (d : Nat) : ∀ (i j k : Nat), i ≤ pos (kw w s) l → pos (kw w s) l ≤ j → j ≤ l.length → j - i ≤ d → d + 3 < k →
 api_Entry_with_26.l0 k l (l.length : Int) (i : Int) (j : Int) w s y = some ((pos (kw w s) l : Int), isAt (kw w s) l) := by
 induction d with
 | zero =>
  intro i j k h1 h2 h3 hd hk
  obtain ⟨k, rfl⟩ := succ_of hk
  obtain rfl : i = pos (kw w s) l := by omega
  simp only [api_Entry_with_26.l0]
  rw [if_neg (by omega)]
  unfold isAt
  by_cases hn : pos (kw w s) l < l.length
  ·
   rw [if_pos (by omega), if_pos (by omega), if_pos (by omega), rdE hn, order_eq _ _ _ _ _ _ k (by omega), dif_pos hn]
   simp only [Option.bind_some, ord_z]
  ·
   rw [if_neg (by omega), dif_neg hn]
 | succ d ih =>
  intro i j k h1 h2 h3 hd hk
  by_cases hij : i < j
  ·
   obtain ⟨k, rfl⟩ := succ_of hk
   obtain ⟨m, hm⟩ : ∃ m : Nat, m = (i + j) / 2 := ⟨_, rfl⟩
   have e : wrap64 ((IntKind.u64.wrap (wrap64 ((i : Int) + (j : Int)))) / 2) = (m : Int) := by
    rw [w64 (a := (i : Int) + (j : Int)) (by omega) (by omega)]
    have : IntKind.u64.wrap ((i : Int) + (j : Int)) = (i : Int) + (j : Int) := by
     simp only [IntKind.wrap, IntKind.signed, IntKind.bits]
     simp
     omega
    rw [this, w64 (by omega) (by omega)]
    omega
   have hml : m < l.length := by omega
   simp only [api_Entry_with_26.l0]
   rw [if_pos (by omega), e, if_pos (by omega), if_pos (by omega), rdE hml, order_eq _ _ _ _ _ _ k (by omega)]
   simp only [Option.bind_some]
   by_cases hc : lt (keyE l[m]) (kw w s) = true
   ·
    rw [if_pos (ord_lt.2 hc), w64s (by omega)]
    refine ih (m + 1) j k ?_ h2 h3 (by omega) (by omega)
    rcases Nat.lt_or_ge m (pos (kw w s) l) with h | h
    ·
     exact h
    ·
     exfalso
     have hp : pos (kw w s) l < l.length := by omega
     have h5 := pos_at (kw w s) l hp
     rcases Nat.lt_or_ge (pos (kw w s) l) m with h6 | h6
     ·
      exact h5 (lt_trans (rise_at ho h6 hml) hc)
     ·
      have h7 : pos (kw w s) l = m := by omega
      simp only [h7] at h5
      exact h5 hc
   ·
    rw [if_neg (fun h => hc (ord_lt.1 h))]
    refine ih i m k h1 ?_ (by omega) (by omega) (by omega)
    rcases Nat.lt_or_ge m (pos (kw w s) l) with h | h
    ·
     exact absurd (pos_lt (kw w s) l m hml h) hc
    ·
     exact h
  ·
   exact ih i j k h1 h2 h3 (by omega) (by omega)
theorem bs_eq {l : List E} (hl : l.length ≤ 100) (ho : Rise l) (w : Int) (s : ByteArray) (y : List W) {k : Nat} (hk : l.length + 3 < k) : api_Entry_with_26.f k l w s y = some ((pos (kw w s) l : Int), isAt (kw w s) l) := by
 unfold api_Entry_with_26.f
 exact bs_l0 hl ho w s y l.length 0 l.length k (Nat.zero_le _) (pos_le _ l) (Nat.le_refl _) (by omega) hk
end Go.Proofs.Ytofaindjbhmopaa.Pure
end
section
namespace Go.Proofs.Ytofaindjbhmopaa.Pure
open Go.RowKit Go.Proofs.Ytofaindjbhmopaa.X Go.Proofs.YtofaindjbhmopaaW.PrintWords Go.Proofs.YtofaindjbhmopaaW.PrintLast Go.Proofs.YtofaindjbhmopaaW.PrintMore Go.Proofs.Ytofaindjbhmopaa.Aid
open Go.Proofs.Ytofaindjbhmopaa.Ord (less)
def vsAt (q : Key) (l : List E) : List W := if isAt q l = true then ((l[pos q l]?).elim [] fun e => e.f2) else []
def putE (x : E) (q : Key) (l : List E) : List E := l.take (pos q l) ++ [x] ++ (if isAt q l = true then l.drop (pos q l + 1) else l.drop (pos q l))
def applied (l : List E) (s w : Int) (key : ByteArray) (v : Int) : List E × Int :=
 if okE none l = true then
  (if (foldv (vsAt (kw w key) l) s v).2 = 0 then (putE ⟨w, key, (foldv (vsAt (kw w key) l) s v).1⟩ (kw w key) l, 0) else ([], (foldv (vsAt (kw w key) l) s v).2))
 else ([], 9)
theorem isAt_lt {q : Key} {l : List E} (h : isAt q l = true) : pos q l < l.length := by
 unfold isAt at h
 by_cases c : pos q l < l.length
 ·
  exact c
 ·
  rw [dif_neg c] at h
  cases h
theorem isAt_key {q : Key} {l : List E} (h : isAt q l = true) : keyE (l[pos q l]'(isAt_lt h)) = q := by
 have c := isAt_lt h
 unfold isAt at h
 rw [dif_pos c] at h
 exact of_decide_eq_true h
theorem vsAt_at {q : Key} {l : List E} (h : isAt q l = true) : vsAt q l = (l[pos q l]'(isAt_lt h)).f2 := by
 unfold vsAt
 rw [if_pos h, List.getElem?_eq_getElem (isAt_lt h)]
 rfl
theorem vsAt_none {q : Key} {l : List E} (h : ¬ isAt q l = true) : vsAt q l = [] := by
 unfold vsAt
 rw [if_neg h]
theorem vsAt_le {q : Key} {l : List E} (hl : small l) : (vsAt q l).length ≤ 100 := by
 by_cases h : isAt q l = true
 ·
  rw [vsAt_at h]
  exact small_at hl _
 ·
  rw [vsAt_none h]
  exact Nat.zero_le _
def QE (l : List E) : Prop := ∀ e ∈ l, ∀ x ∈ e.f2, Q82 x
theorem vsAt_q {q : Key} {l : List E} (hq : QE l) : ∀ x ∈ vsAt q l, Q82 x := by
 intro x hx
 by_cases h : isAt q l = true
 ·
  rw [vsAt_at h] at hx
  exact hq _ (List.getElem_mem (isAt_lt h)) x hx
 ·
  rw [vsAt_none h] at hx
  cases hx
theorem ins_eq {l : List E} (hl : l.length ≤ 100) {i : Nat} (hi : i ≤ l.length) (x : E) : api_Entry_29.f l (i : Int) [x] = some (l.take i ++ [x] ++ l.drop i) := by
 unfold api_Entry_29.f api_Entry_29.F
 rw [if_pos (by simp), if_pos (by omega), if_pos (by omega), if_pos (by simp; omega)]
 rfl
theorem apply_eq {l : List E} (hl : small l) (hq : QE l) (s w : Int) (key : ByteArray) {v : Int} (hv : inr v) (k : Nat) (hk : 400 < k) : shard_Apply.f k l s w key v = some (applied l s w key v) := by
 have hn := hl.1
 unfold shard_Apply.f applied
 rw [sright_eq hl k (by omega)]
 simp only [Option.bind_some]
 by_cases h : okE none l = true
 ·
  rw [if_pos h, if_pos h, bs_eq hn (okE_rise h).1 w key [] (by omega)]
  simp only [Option.bind_some]
  have hf := (fold_p (l := vsAt (kw w key) l) (by have := vsAt_le (q := kw w key) hl; omega) (vsAt_q hq) s v hv k (by omega))
  by_cases c : isAt (kw w key) l = true
  ·
   have hp := isAt_lt c
   rw [vsAt_at c] at hf ⊢
   rw [if_pos c, if_pos (by omega), if_pos (by omega), rdE hp, hf]
   simp only [Option.bind_some]
   by_cases c2 : (foldv (l[pos (kw w key) l]'hp).f2 s v).2 = 0
   ·
    rw [if_pos c2, if_pos c2]
    unfold api_Entry_28.f
    rw [if_pos (by omega)]
    simp only [Option.bind_some, Int.toNat_natCast]
    rw [if_pos (by omega)]
    unfold putE
    rw [if_pos c, List.set_eq_take_append_cons_drop, if_pos hp, List.append_assoc]
    rfl
   ·
    rw [if_neg c2, if_neg c2]
  ·
   rw [vsAt_none c] at hf ⊢
   rw [if_neg c, hf]
   simp only [Option.bind_some]
   by_cases c2 : (foldv [] s v).2 = 0
   ·
    rw [if_pos c2, if_pos c2]
    unfold api_Entry_28.f
    rw [if_pos (by omega)]
    simp only [Option.bind_some]
    rw [ins_eq hn (pos_le _ l)]
    simp only [Option.bind_some]
    unfold putE
    rw [if_neg c]
   ·
    rw [if_neg c2, if_neg c2]
 ·
  rw [if_neg h, if_neg h]
theorem rightFrom_pushed {l m : List W} (h : (pushed l m).2 = 0) : (pushed l m).1 = l ++ m ∧ rightFrom 0 (l ++ m) = true := by
 unfold pushed at h ⊢
 by_cases c : rightFrom 0 (l ++ m) = true
 ·
  rw [if_pos c]
  exact ⟨rfl, c⟩
 ·
  rw [if_neg c] at h
  cases h
theorem putE_len (x : E) (q : Key) (l : List E) : (putE x q l).length ≤ l.length + 1 := by
 have := pos_le q l
 unfold putE
 split <;> simp only [List.length_append, List.length_take, List.length_drop, List.length_singleton] <;> omega
theorem putE_mem {x e : E} {q : Key} {l : List E} (h : e ∈ putE x q l) : e = x ∨ e ∈ l := by
 unfold putE at h
 rcases List.mem_append.1 h with h | h
 ·
  rcases List.mem_append.1 h with h | h
  ·
   exact .inr (List.mem_of_mem_take h)
  ·
   exact .inl (List.mem_singleton.1 h)
 ·
  split at h
  ·
   exact .inr (List.mem_of_mem_drop h)
  ·
   exact .inr (List.mem_of_mem_drop h)
theorem applied_small {l : List E} (hl : small l) (s w : Int) (key : ByteArray) (v : Int) : small1 (applied l s w key v).1 := by
 have hn := hl.1
 have hz : small1 [] := ⟨by simp, fun e he => by cases he⟩
 unfold applied
 split
 ·
  split
  ·
   refine ⟨Nat.le_trans (putE_len _ _ _) (by omega), fun e he => ?_⟩
   rcases putE_mem he with rfl | he
   ·
    have h1 := foldv_le (vsAt (kw w key) l) s v
    have h2 := vsAt_le (q := kw w key) hl
    show (foldv (vsAt (kw w key) l) s v).1.length ≤ 101
    omega
   ·
    have := (hl.2 e he).1
    omega
  ·
   exact hz
 ·
  exact hz
end Go.Proofs.Ytofaindjbhmopaa.Pure
end
section
namespace Go.Proofs.Ytofaindjbhmopaa.Pure
open Go.RowKit Go.Proofs.Ytofaindjbhmopaa.X Go.Proofs.YtofaindjbhmopaaW.PrintWords Go.Proofs.YtofaindjbhmopaaW.PrintLast Go.Proofs.YtofaindjbhmopaaW.PrintMore Go.Proofs.Ytofaindjbhmopaa.Aid
theorem right_gt {r : List W} : ∀ (c : Int), rightFrom c r = true → ∀ y ∈ r, c < y.f0 := by
 induction r with
 | nil => exact fun c _ y hy => absurd hy (by simp)
 | cons x r ih =>
  intro c h y hy
  rw [right_cons] at h
  by_cases h1 : x.f0 ≤ c
  ·
   rw [if_pos h1] at h; exact absurd h (by simp)
  ·
   rw [if_neg h1] at h
   by_cases h2 : x.f0 > 1000000000000000
   ·
    rw [if_pos h2] at h; exact absurd h (by simp)
   ·
    rw [if_neg h2] at h
    rcases List.mem_cons.mp hy with e | e
    ·
     rw [e]; omega
    ·
     have := ih x.f0 h y e; omega
end Go.Proofs.Ytofaindjbhmopaa.Pure
end
section
namespace Go.Proofs.Ytofaindjbhmopaa.Pure
open Go.RowKit Go.Proofs.Ytofaindjbhmopaa.X Go.Proofs.YtofaindjbhmopaaW.PrintWords Go.Proofs.YtofaindjbhmopaaW.PrintLast Go.Proofs.YtofaindjbhmopaaW.PrintMore Go.Proofs.Ytofaindjbhmopaa.Aid
def nw (s : Int) : Nat → Int → List W → Int
 | _, acc, [] => acc
 | i, acc, x :: l => nw s (i + 1) (if x.f0 ≤ s then (i : Int) else acc) l
theorem nw_cons (s : Int) (i : Nat) (acc : Int) (x : W) (l : List W) : nw s i acc (x :: l) = nw s (i + 1) (if x.f0 ≤ s then (i : Int) else acc) l := rfl
theorem nw_app (s : Int) (a c : List W) : ∀ (i : Nat) (acc : Int), nw s i acc (a ++ c) = nw s (i + a.length) (nw s i acc a) c := by
 induction a with
 | nil => intro i acc; rfl
 | cons x a ih =>
  intro i acc
  rw [List.cons_append, nw_cons, ih, nw_cons, List.length_cons]
  congr 1
  omega
theorem nw_take {l : List W} {i : Nat} (h : i < l.length) (s : Int) : nw s 0 (-1) (l.take (i + 1)) = if l[i].f0 ≤ s then (i : Int) else nw s 0 (-1) (l.take i) := by
 rw [take_at h, nw_app, List.length_take, Nat.min_eq_left (by omega), nw_cons, Nat.zero_add]
 rfl
theorem newest_l0 {l : List W} (hn : l.length < LM) (s : Int) : ∀ (i k : Nat), i ≤ l.length → i < k → chain_newest.l0 k l s ((i : Int) - 1) = some (nw s 0 (-1) (l.take i)) := by
 have hn' := hn
 unfold LM at hn'
 intro i
 induction i with
 | zero =>
  intro k _ hk
  obtain ⟨k, rfl⟩ := succ_of hk
  simp only [chain_newest.l0]
  rw [if_neg (by omega)]
  rfl
 | succ i ih =>
  intro k hi hk
  obtain ⟨k, rfl⟩ := succ_of hk
  have hlt : i < l.length := by omega
  have hc : (((i + 1 : Nat) : Int) - 1) = (i : Int) := by omega
  simp only [chain_newest.l0]
  rw [hc, if_pos (by omega), if_pos (by omega), if_pos (by omega), rdW hlt, w64p (by omega), ih k (by omega) (by omega), nw_take hlt]
  by_cases h : l[i].f0 ≤ s
  ·
   rw [if_pos h, if_pos h]
  ·
   rw [if_neg h, if_neg h]
theorem newest_eq {l : List W} (hn : l.length < LM) (s : Int) (k : Nat) (hk : l.length < k) : chain_newest.f k l s = some (nw s 0 (-1) l) := by
 have hn' := hn
 unfold LM at hn'
 unfold chain_newest.f
 rw [w64p (by omega), newest_l0 hn s l.length k (Nat.le_refl _) hk, List.take_length]
end Go.Proofs.Ytofaindjbhmopaa.Pure
end
section
namespace Go.Proofs.Ytofaindjbhmopaa.Pure
open Go.RowKit Go.Proofs.Ytofaindjbhmopaa.X Go.Proofs.YtofaindjbhmopaaW.PrintWords Go.Proofs.YtofaindjbhmopaaW.PrintLast Go.Proofs.YtofaindjbhmopaaW.PrintMore Go.Proofs.Ytofaindjbhmopaa.Aid
def atf (s : Int) (c : C) (l : List W) : C := l.foldl (fun c x => if x.f0 ≤ s then ce x.f1 else c) c
theorem atf_cons (s : Int) (c : C) (x : W) (l : List W) : atf s c (x :: l) = atf s (if x.f0 ≤ s then ce x.f1 else c) l := rfl
theorem atf_app (s : Int) (c : C) (a b : List W) : atf s c (a ++ b) = atf s (atf s c a) b := List.foldl_append
theorem atf_snoc (s : Int) (c : C) (a : List W) (x : W) : atf s c (a ++ [x]) = if x.f0 ≤ s then ce x.f1 else atf s c a := by rw [atf_app]; rfl
theorem nw_spec {l : List W} (s : Int) : ∀ (i : Nat), i ≤ l.length → (nw s 0 (-1) (l.take i) = -1 ∧ atf s zc (l.take i) = zc) ∨ (∃ j, ∃ h : j < l.length, nw s 0 (-1) (l.take i) = (j : Int) ∧ atf s zc (l.take i) = ce l[j].f1) := by
 intro i
 induction i with
 | zero => exact fun _ => Or.inl ⟨rfl, rfl⟩
 | succ i ih =>
  intro hi
  have hlt : i < l.length := by omega
  rw [nw_take hlt, take_at hlt, atf_snoc]
  by_cases h : l[i].f0 ≤ s
  ·
   rw [if_pos h, if_pos h]
   exact Or.inr ⟨i, hlt, rfl, rfl⟩
  ·
   rw [if_neg h, if_neg h]
   exact ih (by omega)
theorem at_eq {l : List W} (hn : l.length < LM) (s : Int) (k : Nat) (hk : l.length < k) : chain_At.f k l s = some (atf s zc l) := by
 unfold chain_At.f
 rw [newest_eq hn s k hk]
 simp only [Option.bind_some]
 have h := nw_spec (l := l) s l.length (Nat.le_refl _)
 rw [List.take_length] at h
 rcases h with ⟨h1, h2⟩ | ⟨j, hj, h1, h2⟩
 ·
  rw [h1, h2, if_neg (by omega)]
  rfl
 ·
  rw [h1, h2, if_pos (by omega), if_pos (by omega), if_pos (by omega), rdW hj]
  rfl
end Go.Proofs.Ytofaindjbhmopaa.Pure
end
section
namespace Go.Proofs.Ytofaindjbhmopaa.Pure
open Go.RowKit Go.Proofs.Ytofaindjbhmopaa.X Go.Proofs.YtofaindjbhmopaaW.PrintWords Go.Proofs.YtofaindjbhmopaaW.PrintLast Go.Proofs.YtofaindjbhmopaaW.PrintMore Go.Proofs.Ytofaindjbhmopaa.Aid
abbrev D := S39
def drp (ds : List D) (w s : Int) : Bool := ds.any fun x => x.f0 == w && decide (x.f1 ≤ s)
theorem drop_eq (ds : List D) (w s : Int) : shard_dropped.f ds w s = some (drp ds w s) := rfl
end Go.Proofs.Ytofaindjbhmopaa.Pure
end
section
namespace Go.Proofs.Ytofaindjbhmopaa.Pure
open Go.RowKit Go.Proofs.Ytofaindjbhmopaa.X Go.Proofs.YtofaindjbhmopaaW.PrintWords Go.Proofs.YtofaindjbhmopaaW.PrintLast Go.Proofs.YtofaindjbhmopaaW.PrintMore Go.Proofs.Ytofaindjbhmopaa.Aid
abbrev I := S54
theorem rdI {l : List I} {i : Nat} (h : i < l.length) : rd_T54 l (i : Int) = l[i] := getD_at h _
def rdl (s : Int) (ds : List D) : List E → List I
 | [] => []
 | e :: l => if drp ds e.f0 s = true then rdl s ds l else if (atf s zc e.f2).1 < 1 then rdl s ds l else ⟨e.f0, e.f1, ec (atf s zc e.f2)⟩ :: rdl s ds l
theorem rdl_cons (s : Int) (ds : List D) (e : E) (l : List E) : rdl s ds (e :: l) = if drp ds e.f0 s = true then rdl s ds l else if (atf s zc e.f2).1 < 1 then rdl s ds l else ⟨e.f0, e.f1, ec (atf s zc e.f2)⟩ :: rdl s ds l := rfl
theorem rdl_le (s : Int) (ds : List D) : ∀ l : List E, (rdl s ds l).length ≤ l.length
 | [] => Nat.le_refl _
 | e :: l => by
  have := rdl_le s ds l
  rw [rdl_cons]
  split
  ·
   simp only [List.length_cons]; omega
  ·
   split
   ·
    simp only [List.length_cons]; omega
   ·
    simp only [List.length_cons]; omega
theorem read_l0 {l : List E} (hl : small1 l) (s : Int) (ds : List D) (d : Nat) : ∀ (i k : Nat) (acc : List I), i + d = l.length → d + 102 < k → acc.length ≤ i →
 shard_Read.l0 k s ds acc l (l.length : Int) (i : Int) = some (acc ++ rdl s ds (l.drop i)) := by
 have hn := hl.1
 induction d with
 | zero =>
  intro i k acc hi hk _
  obtain ⟨k, rfl⟩ := succ_of hk
  simp only [shard_Read.l0]
  rw [if_neg (by omega), List.drop_of_length_le (by omega), rdl, List.append_nil]
 | succ d ih =>
  intro i k acc hi hk ha
  obtain ⟨k, rfl⟩ := succ_of hk
  have hlt : i < l.length := by omega
  have hs := small1_at hl hlt
  have h1 := ih (i + 1) k (acc ++ [⟨l[i].f0, l[i].f1, ec (atf s zc l[i].f2)⟩]) (by omega) (by omega) (by rw [List.length_append, List.length_singleton]; omega)
  rw [List.append_assoc, List.singleton_append] at h1
  simp only [shard_Read.l0, drop_eq, Option.bind_some, cell_Empty.f]
  rw [if_pos (by omega), if_pos (by omega), if_pos (by omega), rdE hlt, drop_at hlt, w64s (by omega), rdl_cons, ih (i + 1) k acc (by omega) (by omega) (by omega), at_eq (l := l[i].f2) (by unfold LM; omega) s k (by omega)]
  simp only [Option.bind_some, decide_eq_true_eq]
  by_cases c1 : drp ds l[i].f0 s = true
  ·
   rw [if_pos c1, if_pos c1]
  ·
   rw [if_neg c1, if_neg c1]
   by_cases c2 : (atf s zc l[i].f2).1 < 1
   ·
    rw [if_pos c2, if_pos c2]
   ·
    rw [if_neg c2, if_neg c2, if_pos (show acc.length < 2199023255552 by omega)]
    exact h1
theorem read_eq {l : List E} (hl : small1 l) (s : Int) (ds : List D) (k : Nat) (hk : l.length + 102 < k) : shard_Read.f k l s ds = some (rdl s ds l) := by
 have h := read_l0 hl s ds l.length 0 k [] (by omega) hk (Nat.zero_le _)
 rw [List.nil_append, List.drop_zero] at h
 exact h
end Go.Proofs.Ytofaindjbhmopaa.Pure
end
section
namespace Go.Proofs.Ytofaindjbhmopaa.Pure
open Go.RowKit Go.Proofs.Ytofaindjbhmopaa.X Go.Proofs.YtofaindjbhmopaaW.PrintWords Go.Proofs.YtofaindjbhmopaaW.PrintLast Go.Proofs.YtofaindjbhmopaaW.PrintMore Go.Proofs.Ytofaindjbhmopaa.Aid
def szw (n : Int) : List E → Int
 | [] => n
 | e :: l => szw (wrap64 (n + (e.f2.length : Int))) l
theorem size_l0 {l : List E} (hn : l.length ≤ 101) (d : Nat) : ∀ (i k : Nat) (n : Int), i + d = l.length → d < k → shard_Size.l0 k n l (l.length : Int) (i : Int) = some (szw n (l.drop i)) := by
 induction d with
 | zero =>
  intro i k n hi hk
  obtain ⟨k, rfl⟩ := succ_of hk
  simp only [shard_Size.l0]
  rw [if_neg (by omega), List.drop_of_length_le (by omega)]
  rfl
 | succ d ih =>
  intro i k n hi hk
  obtain ⟨k, rfl⟩ := succ_of hk
  have hlt : i < l.length := by omega
  simp only [shard_Size.l0]
  rw [if_pos (by omega), if_pos (by omega), if_pos (by omega), rdE hlt, drop_at hlt, w64s (by omega), ih (i + 1) k _ (by omega) (by omega)]
  rfl
theorem size_eq {l : List E} (hn : l.length ≤ 101) (k : Nat) (hk : l.length < k) : shard_Size.f k l = some (szw 0 l) := size_l0 hn l.length 0 k 0 (by omega) hk
end Go.Proofs.Ytofaindjbhmopaa.Pure
end
section
namespace Go.Proofs.Ytofaindjbhmopaa.Pure
open Go.RowKit Go.Proofs.Ytofaindjbhmopaa.X Go.Proofs.YtofaindjbhmopaaW.PrintWords Go.Proofs.YtofaindjbhmopaaW.PrintLast Go.Proofs.YtofaindjbhmopaaW.PrintMore Go.Proofs.Ytofaindjbhmopaa.Aid
open Go.Proofs.Ytofaindjbhmopaa.Ord (less)
theorem split_at {l : List E} (h : Rise l) (q : Key) : ∃ A M B : List E, l = A ++ M ++ B ∧ (∀ x, putE x q l = A ++ [x] ++ B) ∧ (∀ e ∈ A, lt (keyE e) q = true) ∧ (∀ e ∈ B, lt q (keyE e) = true) ∧
 ((M = [] ∧ vsAt q l = []) ∨ ∃ e, M = [e] ∧ keyE e = q ∧ vsAt q l = e.f2) := by
 have hA : ∀ e ∈ l.take (pos q l), lt (keyE e) q = true := by
  intro e he
  obtain ⟨i, hi, rfl⟩ := List.mem_iff_getElem.1 he
  rw [List.length_take] at hi
  rw [List.getElem_take]
  exact pos_lt q l i (by omega) (by omega)
 by_cases c : isAt q l = true
 ·
  have hp := isAt_lt c
  have hk := isAt_key c
  refine ⟨l.take (pos q l), [l[pos q l]], l.drop (pos q l + 1), ?_, fun x => ?_, hA, fun e he => ?_, .inr ⟨_, rfl, hk, vsAt_at c⟩⟩
  ·
   rw [List.append_assoc, List.singleton_append, ← drop_at hp, List.take_append_drop]
  ·
   unfold putE
   rw [if_pos c]
  ·
   obtain ⟨i, hi, rfl⟩ := List.mem_iff_getElem.1 he
   rw [List.length_drop] at hi
   rw [List.getElem_drop]
   have := rise_at h (i := pos q l) (j := pos q l + 1 + i) (by omega) (by omega)
   rw [hk] at this
   exact this
 ·
  refine ⟨l.take (pos q l), [], l.drop (pos q l), ?_, fun x => ?_, hA, fun e he => ?_, .inl ⟨rfl, vsAt_none c⟩⟩
  ·
   rw [List.append_nil, List.take_append_drop]
  ·
   unfold putE
   rw [if_neg c]
  ·
   obtain ⟨i, hi, rfl⟩ := List.mem_iff_getElem.1 he
   rw [List.length_drop] at hi
   rw [List.getElem_drop]
   have hp : pos q l < l.length := by omega
   have h1 : lt q (keyE l[pos q l]) = true := by
    have h2 := pos_at q l hp
    have h3 : keyE l[pos q l] ≠ q := by
     intro e
     apply c
     unfold isAt
     rw [dif_pos hp]
     exact decide_eq_true e
    rcases lt_total (keyE l[pos q l]) q with h4 | h4 | h4
    ·
     exact absurd h4 h2
    ·
     exact absurd h4 h3
    ·
     exact h4
   rcases Nat.eq_zero_or_pos i with e0 | hi0
   ·
    subst e0
    exact h1
   ·
    exact lt_trans h1 (rise_at h (by omega) (by omega))
theorem rise_put {A M B : List E} {x : E} {q : Key} (h : Rise (A ++ M ++ B)) (hx : keyE x = q) (hA : ∀ e ∈ A, lt (keyE e) q = true) (hB : ∀ e ∈ B, lt q (keyE e) = true) : Rise (A ++ [x] ++ B) := by
 have h1 := List.pairwise_append.1 h
 have h2 := List.pairwise_append.1 h1.1
 refine List.pairwise_append.2 ⟨List.pairwise_append.2 ⟨h2.1, List.pairwise_singleton _ _, fun a ha b hb => ?_⟩, h1.2.1, fun a ha b hb => ?_⟩
 ·
  rw [List.mem_singleton.1 hb, hx]
  exact hA a ha
 ·
  rcases List.mem_append.1 ha with ha | ha
  ·
   exact h1.2.2 a (List.mem_append_left _ ha) b hb
  ·
   rw [List.mem_singleton.1 ha, hx]
   exact hB b hb
theorem right_lt {x : W} : ∀ {a : List W} {c : Int}, rightFrom c (a ++ [x]) = true → ∀ y ∈ a, y.f0 < x.f0
 | z :: a, c, h, y, hy => by
  rw [List.cons_append, right_cons] at h
  by_cases h1 : z.f0 ≤ c
  ·
   rw [if_pos h1] at h
   cases h
  ·
   rw [if_neg h1] at h
   by_cases h2 : z.f0 > 1000000000000000
   ·
    rw [if_pos h2] at h
    cases h
   ·
    rw [if_neg h2] at h
    rcases List.mem_cons.1 hy with rfl | hy
    ·
     exact right_gt _ h x (by simp)
    ·
     exact right_lt h y hy
theorem atf_all {s : Int} (l : List W) (h : ∀ y ∈ l, y.f0 ≤ s) : atf s zc l = lastc l := by
 rcases List.eq_nil_or_concat l with rfl | ⟨a, x, rfl⟩
 ·
  rfl
 ·
  rw [List.concat_eq_append] at h ⊢
  rw [atf_snoc, if_pos (h x (by simp))]
  unfold lastc
  rw [List.length_append, List.length_singleton, Nat.add_sub_cancel, List.getElem?_append_right (Nat.le_refl _), Nat.sub_self]
  rfl
theorem atf_wc {s : Int} : ∀ {l : List W} {c : C}, WC c → (∀ x ∈ l, WC (ce x.f1)) → WC (atf s c l)
 | [], _, h, _ => h
 | x :: l, c, h, h2 => by
  rw [atf_cons]
  refine atf_wc ?_ (fun y hy => h2 y (List.mem_cons_of_mem _ hy))
  split
  ·
   exact h2 x List.mem_cons_self
  ·
   exact h
theorem cfold_low {c : C} {v : Int} (h : c.1 < 1) : cfold c v = one v := by
 unfold cfold ctwo
 have h1 : ¬ (one v).1 < 1 := by unfold one; simp
 rw [if_neg h1, if_pos h]
theorem cfold_zc (v : Int) : cfold zc v = one v := cfold_low (by unfold zc; simp)
theorem rdl_app (s : Int) (ds : List D) : ∀ a b : List E, rdl s ds (a ++ b) = rdl s ds a ++ rdl s ds b
 | [], b => rfl
 | x :: a, b => by
  rw [List.cons_append, rdl_cons, rdl_cons, rdl_app s ds a b]
  split
  ·
   rfl
  ·
   split
   ·
    rfl
   ·
    rfl
theorem rdl_mem {s : Int} {ds : List D} : ∀ {l : List E} {i : I}, i ∈ rdl s ds l → ∃ e ∈ l, kw i.f0 i.f1 = keyE e
 | x :: l, i, h => by
  rw [rdl_cons] at h
  split at h
  ·
   obtain ⟨e, he, h1⟩ := rdl_mem h
   exact ⟨e, List.mem_cons_of_mem _ he, h1⟩
  ·
   split at h
   ·
    obtain ⟨e, he, h1⟩ := rdl_mem h
    exact ⟨e, List.mem_cons_of_mem _ he, h1⟩
   ·
    rcases List.mem_cons.1 h with rfl | h
    ·
     exact ⟨x, List.mem_cons_self, rfl⟩
    ·
     obtain ⟨e, he, h1⟩ := rdl_mem h
     exact ⟨e, List.mem_cons_of_mem _ he, h1⟩
theorem drp_nil (w s : Int) : drp [] w s = false := rfl
theorem rdl_one (s : Int) (e : E) : rdl s [] [e] = if (atf s zc e.f2).1 < 1 then [] else [⟨e.f0, e.f1, ec (atf s zc e.f2)⟩] := by
 rw [rdl_cons, drp_nil, if_neg (by simp)]
 rfl
def tot : List E → Nat
 | [] => 0
 | e :: l => e.f2.length + tot l
theorem tot_cons (e : E) (l : List E) : tot (e :: l) = e.f2.length + tot l := rfl
theorem tot_app : ∀ a b : List E, tot (a ++ b) = tot a + tot b
 | [], b => by rw [List.nil_append, tot, Nat.zero_add]
 | x :: a, b => by rw [List.cons_append, tot_cons, tot_cons, tot_app a b, Nat.add_assoc]
theorem tot_le : ∀ {l : List E}, (∀ e ∈ l, e.f2.length ≤ 101) → tot l ≤ 101 * l.length
 | [], _ => Nat.le_refl _
 | x :: l, h => by
  have h1 := h x List.mem_cons_self
  have h2 := tot_le (l := l) (fun e he => h e (List.mem_cons_of_mem _ he))
  rw [tot_cons, List.length_cons]
  omega
theorem szw_tot : ∀ {l : List E} {n : Nat}, n + tot l ≤ 1000000 → szw (n : Int) l = ((n + tot l : Nat) : Int)
 | [], n, _ => rfl
 | x :: l, n, h => by
  rw [tot_cons] at h
  have e : wrap64 ((n : Int) + (x.f2.length : Int)) = ((n + x.f2.length : Nat) : Int) := by
   rw [w64 (by omega) (by omega)]
   omega
  rw [szw, e, szw_tot (by omega), tot_cons]
  congr 1
  omega
theorem szw_small {l : List E} (h : small1 l) : szw 0 l = (tot l : Int) ∧ tot l ≤ 10201 := by
 have h1 := tot_le h.2
 have h2 := h.1
 have h3 : tot l ≤ 10201 := by omega
 have := szw_tot (l := l) (n := 0) (by omega)
 rw [Nat.zero_add] at this
 exact ⟨this, h3⟩
end Go.Proofs.Ytofaindjbhmopaa.Pure
end
section
namespace Go.Proofs.Ytofaindjbhmopaa.Pure
open Go.RowKit Go.Proofs.Ytofaindjbhmopaa.X Go.Proofs.YtofaindjbhmopaaW.PrintWords Go.Proofs.YtofaindjbhmopaaW.PrintLast Go.Proofs.YtofaindjbhmopaaW.PrintMore Go.Proofs.Ytofaindjbhmopaa.Aid
theorem items_l0 {l : List I} (hn : l.length ≤ 101) (d : Nat) : ∀ (i k : Nat), i + d = l.length → d < k → r08_Items.l0 k l l (i : Int) = some true := by
 induction d with
 | zero =>
  intro i k hi hk
  obtain ⟨k, rfl⟩ := succ_of hk
  simp only [r08_Items.l0]
  rw [if_neg (by omega)]
 | succ d ih =>
  intro i k hi hk
  obtain ⟨k, rfl⟩ := succ_of hk
  have hlt : i < l.length := by omega
  simp only [r08_Items.l0]
  rw [if_pos (by omega), if_pos (by omega), if_pos (by omega), w64s (by omega), ih (i + 1) k (by omega) (by omega)]
  rw [if_neg (by simp)]
theorem items_eq {l : List I} (hn : l.length ≤ 101) (k : Nat) (hk : l.length < k) : r08_Items.f k l l = some true := by
 unfold r08_Items.f
 rw [if_pos rfl]
 exact items_l0 hn l.length 0 k (by omega) hk
end Go.Proofs.Ytofaindjbhmopaa.Pure
end
section
namespace Go.Proofs.Ytofaindjbhmopaa.Pure
open Go.RowKit Go.Proofs.Ytofaindjbhmopaa.X Go.Proofs.YtofaindjbhmopaaW.PrintWords Go.Proofs.YtofaindjbhmopaaW.PrintLast Go.Proofs.YtofaindjbhmopaaW.PrintMore Go.Proofs.Ytofaindjbhmopaa.Aid
open Go.Proofs.Ytofaindjbhmopaa.Ord (less)
theorem alive_eq (k : Nat) (hk : 30 ≤ k) : w11_alive.f k = some true :=
 at_rounds (g := fun k => w11_alive.f k) w11_alive.mono hk (by decide +kernel)
theorem j0_true (a2 : Int) (l : List E) (s w : Int) (key : ByteArray) (v : Int) (k : Nat) (hk : 0 < k) : w11_ShardWrites.j0 k a2 true l s w key v = some true := by
 obtain ⟨k, rfl⟩ := succ_of hk
 simp only [w11_ShardWrites.j0]
 rfl
def isK (w : Int) (key : ByteArray) (i : I) : Bool := if i.f0 = w then decide (i.f1.toList = key.toList) else false
theorem isK_iff {w : Int} {key : ByteArray} {i : I} : isK w key i = true ↔ kw i.f0 i.f1 = kw w key := by
 rw [kw_inj]
 unfold isK
 by_cases c : i.f0 = w
 ·
  rw [if_pos c, decide_eq_true_eq, bl_toList, bl_toList]
  exact ⟨fun h => ⟨c, ByteArray.ext (Array.toList_inj.1 h)⟩, fun h => by rw [h.2]⟩
 ·
  rw [if_neg c]
  exact ⟨(fun h => by cases h), fun h => absurd h.1 c⟩
def restI (w : Int) (key : ByteArray) (l : List I) : List I := l.filter fun i => !isK w key i
def wasI (w : Int) (key : ByteArray) (c : C) (l : List I) : C := l.foldl (fun c i => if isK w key i = true then ce i.f2 else c) c
def eqC (x : S52) (c : C) : Bool := ((x.f0) == c.1 && (((x.f1.f0) == c.2.1 && ((x.f1.f1) == c.2.2.1)) && ((x.f2) == c.2.2.2.1 && ((x.f3) == c.2.2.2.2))))
theorem eqC_self (c : C) : eqC (ec c) c = true := by simp [eqC, ec]
def foundI (w : Int) (key : ByteArray) (c : C) (b : Bool) (l : List I) : Bool := l.foldl (fun b i => if isK w key i = true then eqC i.f2 c else b) b
theorem restI_cons (w : Int) (key : ByteArray) (i : I) (l : List I) : restI w key (i :: l) = if isK w key i = true then restI w key l else i :: restI w key l := by
 unfold restI
 rw [List.filter_cons]
 by_cases c : isK w key i = true
 ·
  rw [c]
  rfl
 ·
  rw [Bool.eq_false_iff.2 c]
  rfl
theorem wasI_cons (w : Int) (key : ByteArray) (c : C) (i : I) (l : List I) : wasI w key c (i :: l) = wasI w key (if isK w key i = true then ce i.f2 else c) l := rfl
theorem foundI_cons (w : Int) (key : ByteArray) (c : C) (b : Bool) (i : I) (l : List I) : foundI w key c b (i :: l) = foundI w key c (if isK w key i = true then eqC i.f2 c else b) l := rfl
theorem w_l1 {b : List I} (hb : b.length ≤ 101) {was : C} (hw : WC was) {v : Int} (hv : inr v) (rest : List I) (l t : List E) (s w : Int) (key : ByteArray) (R : Bool) (K : Nat)
 (hend : ∀ k, K < k → ∀ other : List I, ∀ f : Bool, other.length ≤ 101 → other = restI w key b → f = foundI w key (cfold was v) false b →
  (if f = true then ((r08_Items.f k rest other).bind fun t402 => (if t402 = true then ((shard_Size.f k t).bind fun t403 => ((shard_Size.f k l).bind fun t404 => (if t403 = (wrap64 (t404 + 1)) then ((r11_Right.f k t).bind fun t405 => (some t405)) else (none)))) else (none))) else (none)) = some R) (d : Nat) :
 ∀ (i k : Nat) (acc : List I) (f : Bool), i + d = b.length → d + K + 2 < k → acc.length ≤ i → acc ++ restI w key (b.drop i) = restI w key b → foundI w key (cfold was v) f (b.drop i) = foundI w key (cfold was v) false b →
 w11_ShardWrites.l1 k b rest acc f (i : Int) l s w key v t was.1 was.2.1 was.2.2.1 was.2.2.2.1 was.2.2.2.2 = some R := by
 induction d with
 | zero =>
  intro i k acc f hi hk ha h1 h2
  obtain ⟨k, rfl⟩ := succ_of hk
  simp only [w11_ShardWrites.l1]
  rw [List.drop_of_length_le (by omega)] at h1 h2
  rw [if_neg (by omega)]
  exact hend k (by omega) acc f (by omega) (by rw [← h1]; simp [restI]) (by rw [← h2]; rfl)
 | succ d ih =>
  intro i k acc f hi hk ha h1 h2
  obtain ⟨k, rfl⟩ := succ_of hk
  have hlt : i < b.length := by omega
  rw [drop_at hlt] at h1 h2
  rw [restI_cons] at h1
  rw [foundI_cons] at h2
  simp only [w11_ShardWrites.l1]
  rw [if_pos (by omega), if_pos (by omega), rdI hlt, w64s (by omega), ref_fold hw hv k (by omega)]
  simp only [Option.bind_some]
  have hno : ¬ isK w key b[i] = true → (if acc.length < 2199023255552 then w11_ShardWrites.l1 k b rest (acc ++ [b[i]]) f ((i + 1 : Nat) : Int) l s w key v t was.1 was.2.1 was.2.2.1 was.2.2.2.1 was.2.2.2.2 else none) = some R := by
   intro c
   rw [if_neg c] at h1 h2
   rw [if_pos (by omega)]
   exact ih (i + 1) k (acc ++ [b[i]]) f (by omega) (by omega) (by rw [List.length_append, List.length_singleton]; omega) (by rw [List.append_assoc, List.singleton_append]; exact h1) h2
  by_cases c1 : b[i].f0 = w
  ·
   rw [if_pos c1]
   by_cases c2 : b[i].f1.toList = key.toList
   ·
    have c : isK w key b[i] = true := by
     unfold isK
     rw [if_pos c1]
     exact decide_eq_true c2
    rw [if_pos c] at h1 h2
    rw [if_pos c2]
    exact ih (i + 1) k acc _ (by omega) (by omega) (by omega) h1 h2
   ·
    rw [if_neg c2]
    refine hno ?_
    unfold isK
    rw [if_pos c1, decide_eq_true_eq]
    exact c2
  ·
   rw [if_neg c1]
   refine hno ?_
   unfold isK
   rw [if_neg c1]
   simp
theorem w_l0 {a : List I} (ha' : a.length ≤ 101) (b : List I) (l t : List E) (s w : Int) (key : ByteArray) (v : Int) (R : Bool) (K : Nat)
 (hend : ∀ k, K < k → ∀ (rest : List I) (was : C), rest = restI w key a → was = wasI w key zc a → w11_ShardWrites.l1 k b rest [] false 0 l s w key v t was.1 was.2.1 was.2.2.1 was.2.2.2.1 was.2.2.2.2 = some R) (d : Nat) :
 ∀ (i k : Nat) (acc : List I) (c : C), i + d = a.length → d + K + 2 < k → acc.length ≤ i → acc ++ restI w key (a.drop i) = restI w key a → wasI w key c (a.drop i) = wasI w key zc a →
 w11_ShardWrites.l0 k a b acc (i : Int) l s w key v t c.1 c.2.1 c.2.2.1 c.2.2.2.1 c.2.2.2.2 = some R := by
 induction d with
 | zero =>
  intro i k acc c hi hk ha h1 h2
  obtain ⟨k, rfl⟩ := succ_of hk
  simp only [w11_ShardWrites.l0]
  rw [List.drop_of_length_le (by omega)] at h1 h2
  rw [if_neg (by omega)]
  exact hend k (by omega) acc c (by rw [← h1]; simp [restI]) (by rw [← h2]; rfl)
 | succ d ih =>
  intro i k acc c hi hk ha h1 h2
  obtain ⟨k, rfl⟩ := succ_of hk
  have hlt : i < a.length := by omega
  rw [drop_at hlt] at h1 h2
  rw [restI_cons] at h1
  rw [wasI_cons] at h2
  simp only [w11_ShardWrites.l0]
  rw [if_pos (by omega), if_pos (by omega), rdI hlt, w64s (by omega)]
  have hno : ¬ isK w key a[i] = true → (if acc.length < 2199023255552 then w11_ShardWrites.l0 k a b (acc ++ [a[i]]) ((i + 1 : Nat) : Int) l s w key v t c.1 c.2.1 c.2.2.1 c.2.2.2.1 c.2.2.2.2 else none) = some R := by
   intro e
   rw [if_neg e] at h1 h2
   rw [if_pos (by omega)]
   exact ih (i + 1) k (acc ++ [a[i]]) c (by omega) (by omega) (by rw [List.length_append, List.length_singleton]; omega) (by rw [List.append_assoc, List.singleton_append]; exact h1) h2
  by_cases c1 : a[i].f0 = w
  ·
   rw [if_pos c1]
   by_cases c2 : a[i].f1.toList = key.toList
   ·
    have e : isK w key a[i] = true := by
     unfold isK
     rw [if_pos c1]
     exact decide_eq_true c2
    rw [if_pos e] at h1 h2
    rw [if_pos c2]
    exact ih (i + 1) k acc (ce a[i].f2) (by omega) (by omega) (by omega) h1 h2
   ·
    rw [if_neg c2]
    refine hno ?_
    unfold isK
    rw [if_pos c1, decide_eq_true_eq]
    exact c2
  ·
   rw [if_neg c1]
   refine hno ?_
   unfold isK
   rw [if_neg c1]
   simp
theorem was_none {w : Int} {key : ByteArray} : ∀ {l : List I} {c : C}, (∀ i ∈ l, ¬ isK w key i = true) → wasI w key c l = c
 | [], _, _ => rfl
 | i :: l, c, h => by rw [wasI_cons, if_neg (h i List.mem_cons_self), was_none (fun j hj => h j (List.mem_cons_of_mem _ hj))]
theorem found_none {w : Int} {key : ByteArray} {x : C} : ∀ {l : List I} {b : Bool}, (∀ i ∈ l, ¬ isK w key i = true) → foundI w key x b l = b
 | [], _, _ => rfl
 | i :: l, c, h => by rw [foundI_cons, if_neg (h i List.mem_cons_self), found_none (fun j hj => h j (List.mem_cons_of_mem _ hj))]
theorem restI_app (w : Int) (key : ByteArray) (a b : List I) : restI w key (a ++ b) = restI w key a ++ restI w key b := List.filter_append ..
theorem wasI_app (w : Int) (key : ByteArray) (c : C) (a b : List I) : wasI w key c (a ++ b) = wasI w key (wasI w key c a) b := List.foldl_append
theorem foundI_app (w : Int) (key : ByteArray) (c : C) (f : Bool) (a b : List I) : foundI w key c f (a ++ b) = foundI w key c (foundI w key c f a) b := List.foldl_append
theorem no_key {s : Int} {l : List E} {w : Int} {key : ByteArray} (h : ∀ e ∈ l, keyE e ≠ kw w key) : ∀ i ∈ rdl s [] l, ¬ isK w key i = true := by
 intro i hi hk
 obtain ⟨e, he, h1⟩ := rdl_mem hi
 exact h e he (h1.symm.trans (isK_iff.1 hk))
theorem j0_false {l : List E} (hl : small l) (hq : QE l) (st s w : Int) (key : ByteArray) {v : Int} (hv : inr v) (k : Nat) (hk : 1200 < k) : w11_ShardWrites.j0 k st false l s w key v = some true := by
 obtain ⟨k, rfl⟩ := succ_of hk
 have hn := hl.1
 have hp := applied_small hl s w key v
 simp only [w11_ShardWrites.j0]
 rw [if_neg (by simp), apply_eq hl hq s w key hv k (by omega)]
 simp only [Option.bind_some]
 unfold applied at hp ⊢
 by_cases h : okE none l = true
 ·
  rw [if_pos h] at hp ⊢
  by_cases c : (foldv (vsAt (kw w key) l) s v).2 = 0
  ·
   rw [if_pos c] at hp ⊢
   dsimp only at hp ⊢
   obtain ⟨e1, e2⟩ := rightFrom_pushed c
   obtain ⟨hr, _, hv'⟩ := okE_rise h
   obtain ⟨A, M, B, hl', hput, hA, hB, hM⟩ := split_at hr (kw w key)
   have e1' : (foldv (vsAt (kw w key) l) s v).1 = vsAt (kw w key) l ++ [⟨s, ec (cfold (lastc (vsAt (kw w key) l)) v)⟩] := e1
   rw [e1', hput] at hp ⊢
   generalize hvs : vsAt (kw w key) l = vs at e2 hM hp ⊢
   have hvq : ∀ x ∈ vs, WC (ce x.f1) := fun x hx => wc_of (vsAt_q hq x (by rw [hvs]; exact hx))
   have hxk : keyE ⟨w, key, vs ++ [⟨s, ec (cfold (lastc vs) v)⟩]⟩ = kw w key := rfl
   generalize hx : (⟨w, key, vs ++ [⟨s, ec (cfold (lastc vs) v)⟩]⟩ : E) = x at hp hxk ⊢
   have hx2 : x.f2 = vs ++ [⟨s, ec (cfold (lastc vs) v)⟩] := by rw [← hx]
   have hlt := right_lt e2
   have hAn : ∀ e ∈ A, keyE e ≠ kw w key := fun e he => lt_ne (hA e he)
   have hBn : ∀ e ∈ B, keyE e ≠ kw w key := fun e he => (lt_ne (hB e he)).symm
   have hok : okE none (A ++ [x] ++ B) = true := by
    refine okE_of (rise_put (hl' ▸ hr) hxk hA hB) (fun q hq => by cases hq) (fun e he => ?_)
    rcases List.mem_append.1 he with he | he
    ·
     rcases List.mem_append.1 he with he | he
     ·
      exact hv' e (by rw [hl']; simp [he])
     ·
      rw [List.mem_singleton.1 he, hx2]
      exact ⟨by simp, e2⟩
    ·
     exact hv' e (by rw [hl']; simp [he])
   have htot : tot (A ++ [x] ++ B) = tot l + 1 := by
    have hMt : tot M = vs.length := by
     rcases hM with ⟨rfl, h0⟩ | ⟨e, rfl, _, h0⟩
     ·
      rw [h0]
      rfl
     ·
      rw [h0]
      exact Nat.add_zero _
    rw [hl', tot_app, tot_app, tot_app, tot_app, hMt, tot_cons, hx2, List.length_append]
    simp only [List.length_cons, List.length_nil, tot]
    omega
   have hsz : szw 0 (A ++ [x] ++ B) = wrap64 (szw 0 l + 1) := by
    obtain ⟨h1, h2⟩ := szw_small hp
    obtain ⟨h3, h4⟩ := szw_small hl.one
    rw [h1, h3, htot, w64 (by omega) (by omega)]
    omega
   have ea : rdl st [] l = rdl st [] A ++ rdl st [] M ++ rdl st [] B := by rw [hl', rdl_app, rdl_app]
   have eb : rdl st [] (A ++ [x] ++ B) = rdl st [] A ++ rdl st [] [x] ++ rdl st [] B := by rw [rdl_app, rdl_app]
   have la := rdl_le st [] l
   have lb := rdl_le st [] (A ++ [x] ++ B)
   have hpn : (A ++ [x] ++ B).length ≤ 101 := hp.1
   rw [if_pos rfl, read_eq hl.one st [] k (by omega), read_eq hp st [] k (by omega)]
   simp only [Option.bind_some]
   by_cases c2 : st < s
   ·
    have hex : rdl st [] [x] = rdl st [] M := by
     rw [rdl_one, hx2, atf_snoc, if_neg (show ¬ s ≤ st by omega)]
     rcases hM with ⟨rfl, h0⟩ | ⟨e, rfl, h1, h0⟩
     ·
      rw [h0]
      exact if_pos (by show (0 : Int) < 1; decide)
     ·
      rw [rdl_one, ← h0]
      have h2 : e.f0 = x.f0 ∧ e.f1 = x.f1 := kw_inj.1 (show kw e.f0 e.f1 = kw x.f0 x.f1 from h1.trans hxk.symm)
      rw [h2.1, h2.2]
    rw [if_pos c2, eb, hex, ← ea, items_eq (by omega) k (by omega), size_eq hpn k (by omega), size_eq (by omega) k (by omega), hsz]
    simp
   ·
    have hxr : rdl st [] [x] = [⟨w, key, ec (cfold (lastc vs) v)⟩] := by
     rw [rdl_one, hx2, atf_snoc, if_pos (show s ≤ st by omega)]
     have h1 : ¬ (ce (ec (cfold (lastc vs) v))).1 < 1 := by
      rw [ce_ec]
      have : 1 ≤ (cfold (lastc vs) v).1 := by
       unfold cfold ctwo
       have h1 : ¬ (one v).1 < 1 := by unfold one; simp
       rw [if_neg h1]
       by_cases h2 : (lastc vs).1 < 1
       ·
        rw [if_pos h2]
        unfold one
        simp
       ·
        rw [if_neg h2]
        unfold csum one MX
        dsimp only
        split <;> omega
      omega
     rw [if_neg h1, ce_ec, ← hx]
    have hlast : atf st zc vs = lastc vs := atf_all vs (fun y hy => by have := hlt y hy; have h3 : (⟨s, ec (cfold (lastc vs) v)⟩ : W).f0 = s := rfl; omega)
    have hAi := no_key (s := st) hAn
    have hBi := no_key (s := st) hBn
    have hwas : cfold (wasI w key zc (rdl st [] l)) v = cfold (lastc vs) v ∧ WC (wasI w key zc (rdl st [] l)) := by
     rw [ea, wasI_app, wasI_app, was_none hAi, was_none hBi]
     rcases hM with ⟨rfl, h0⟩ | ⟨e, rfl, h1, h0⟩
     ·
      rw [h0]
      exact ⟨rfl, zc_wc⟩
     ·
      rw [rdl_one, ← h0, hlast]
      have hwl : WC (lastc vs) := hlast ▸ atf_wc zc_wc hvq
      by_cases h3 : (lastc vs).1 < 1
      ·
       rw [if_pos h3]
       refine ⟨?_, zc_wc⟩
       show cfold zc v = _
       rw [cfold_low h3, cfold_zc]
      ·
       rw [if_neg h3, wasI_cons, if_pos (isK_iff.2 (show kw e.f0 e.f1 = kw w key from h1)), ce_ec]
       exact ⟨rfl, hwl⟩
    have hkx : isK w key ⟨w, key, ec (cfold (lastc vs) v)⟩ = true := isK_iff.2 rfl
    have hrest : restI w key (rdl st [] l) = restI w key (rdl st [] (A ++ [x] ++ B)) := by
     rw [ea, eb, restI_app, restI_app, restI_app, restI_app]
     congr 2
     have h1 : restI w key (rdl st [] [x]) = [] := by
      rw [hxr, restI_cons, if_pos hkx]
      rfl
     rw [h1]
     rcases hM with ⟨rfl, _⟩ | ⟨e, rfl, h2, _⟩
     ·
      rfl
     ·
      rw [rdl_one]
      split
      ·
       rfl
      ·
       rw [restI_cons, if_pos (isK_iff.2 (show kw e.f0 e.f1 = kw w key from h2))]
       rfl
    have hfound : foundI w key (cfold (lastc vs) v) false (rdl st [] (A ++ [x] ++ B)) = true := by
     rw [eb, foundI_app, foundI_app, found_none hAi, found_none hBi, hxr, foundI_cons, if_pos hkx]
     exact eqC_self _
    rw [if_neg c2]
    refine w_l0 (by omega) _ l (A ++ [x] ++ B) s w key v true 600 (fun k' hk' rest was hrs hws => ?_) (rdl st [] l).length 0 k [] zc (by omega) (by omega) (Nat.le_refl _) (by rw [List.drop_zero]; rfl) (by rw [List.drop_zero])
    refine w_l1 (by omega) (by rw [hws]; exact hwas.2) hv rest l (A ++ [x] ++ B) s w key true 400 (fun k2 hk2 other f ho1 ho hf => ?_) (rdl st [] (A ++ [x] ++ B)).length 0 k' [] false (by omega) (by omega) (Nat.le_refl _) (by rw [List.drop_zero]; rfl) (by rw [List.drop_zero])
    rw [hws, hwas.1, hfound] at hf
    rw [hf, if_pos rfl, ho, hrs, hrest, items_eq (by rw [← ho]; exact ho1) k2 (by rw [← ho]; omega)]
    simp only [Option.bind_some, if_true]
    rw [size_eq hpn k2 (by omega), size_eq (by omega) k2 (by omega), hsz, srright_eq hp k2 (by omega), hok]
    simp
  ·
   rw [if_neg c]
   dsimp only
   rw [if_neg c]
   rfl
 ·
  rw [if_neg h]
  rfl
theorem QE_of {x : S24} (h : Q24 x) : QE x.f0 := fun e he y hy => (h.2 e he).2.2.2 y hy
theorem ShardWrites : w11_ShardWrites.Pure := by
 intro x0 x1 a2 h0 h1 _
 obtain ⟨K, hK⟩ : ∃ K : Nat, K = 1300 := ⟨_, rfl⟩
 refine ⟨K, ?_⟩
 unfold w11_ShardWrites.f
 rw [alive_eq K (by omega)]
 simp only [Option.bind_some, if_true]
 rcases great_or x0.f0 K (by omega) with hg | ⟨hg, hl⟩
 ·
  rw [hg]
  simp only [Option.bind_some, if_true]
  exact j0_true _ _ _ _ _ _ K (by omega)
 ·
  rw [hg]
  simp only [Option.bind_some]
  rw [if_neg (by simp)]
  by_cases c : (x1.f2.size : Int) > 300
  ·
   rw [decide_eq_true c]
   exact j0_true _ _ _ _ _ _ K (by omega)
  ·
   rw [decide_eq_false c]
   exact j0_false hl (QE_of h0) _ _ _ _ (inr_of h1.2.2.2) K (by omega)
end Go.Proofs.Ytofaindjbhmopaa.Pure
end
