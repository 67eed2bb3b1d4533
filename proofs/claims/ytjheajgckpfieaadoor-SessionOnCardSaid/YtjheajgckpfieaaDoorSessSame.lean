/- Replies and sessions, in plain Lean: which are ready, which are the same; and that the program's functions and the references' compute just that. Conditions: fewer than 100000 replies. -/
import Derived.Test.YtjheajgckpfieaaDoorBytes
import Derived.Test.YtjheajgckpfieaaDoorXx2
import Derived.Test.YtjheajgckpfieaaDoorXx7
import Derived.Test.YtjheajgckpfieaaDoorXx9
import Derived.Test.YtjheajgckpfieaaDoorXx14
import Derived.Test.YtjheajgckpfieaaDoorXx6
import Derived.Test.YtjheajgckpfieaaDoorXx9
import Derived.Test.YtjheajgckpfieaaDoorXx8
namespace Go.Proofs.YtjheajgckpfieaaDoor.Pure
open Go.RowKit Go.Proofs.YtjheajgckpfieaaDoor.X Go.Proofs.YtjheajgckpfieaaDoorW.PrintWords Go.Proofs.YtjheajgckpfieaaDoorW.PrintLast Go.Proofs.YtjheajgckpfieaaDoorW.PrintMore Go.Proofs.YtjheajgckpfieaaDoor.Aid Go.Proofs.YtjheajgckpfieaaDoor.Bytes

abbrev Rp := S42
theorem rdP {l : List Rp} {i : Nat} (h : i < l.length) : rd_T42 l (i : Int) = l[i] := getD_at h _
/-- Is it ready? -/
def rdy (s : Int) (x : Rp) : Bool := if x.f1 = 0 then true else if x.f1 = 1 then decide (x.f2 ≤ s) else false
theorem ready_eq (x : Rp) (s : Int) : session_Ready.f x.f0 x.f1 x.f2 x.f3 s = some (rdy s x) ∧ ebbtideref24_Ready.f x.f0 x.f1 x.f2 x.f3 s = some (rdy s x) := by
  unfold session_Ready.f ebbtideref24_Ready.f rdy
  split
  · exact ⟨rfl, rfl⟩
  · split <;> exact ⟨rfl, rfl⟩
/-- The same replies. -/
theorem rp_ne (x y : Rp) : ((!(x.f0.toList == y.f0.toList) || (!(x.f1 == y.f1) || (!(x.f2 == y.f2) || (!(x.f3 == y.f3))))) = true) ↔ x ≠ y := by
  have hb : x.f0.toList = y.f0.toList ↔ x.f0 = y.f0 := by
    constructor
    · intro h
      rw [ByteArray.toList_eq, ByteArray.toList_eq] at h
      rw [← mk_eta x.f0, ← mk_eta y.f0, h]
    · intro h
      rw [h]
  obtain ⟨a, b, c, d⟩ := x
  obtain ⟨a', b', c', d'⟩ := y
  simp only [Bool.or_eq_true, Bool.not_eq_true', beq_eq_false_iff_ne, ne_eq, S42.mk.injEq]
  simp only at hb
  rw [hb]
  by_cases h1 : a = a' <;> by_cases h2 : b = b' <;> by_cases h3 : c = c' <;> by_cases h4 : d = d' <;> simp [h1, h2, h3, h4]
instance : DecidableEq Rp := fun x y => if h : ((!(x.f0.toList == y.f0.toList) || (!(x.f1 == y.f1) || (!(x.f2 == y.f2) || (!(x.f3 == y.f3))))) = true) then isFalse ((rp_ne x y).mp h) else isTrue (Classical.byContradiction fun hn => h ((rp_ne x y).mpr hn))
theorem replies_l0 {a b : List Rp} (hn : a.length < 100000) (he : a.length = b.length) (d : Nat) : ∀ (i k : Nat), i + d = a.length → d < k →
    ebbtideref24_Replies.l0 k a b (i : Int) = some (decide (a.drop i = b.drop i)) ∧ api_Reply_27.l0 k a b (a.length : Int) (i : Int) = some (decide (a.drop i = b.drop i)) := by
  induction d with
  | zero =>
    intro i k hi hk
    obtain ⟨k, rfl⟩ := succ_of hk
    simp only [ebbtideref24_Replies.l0, api_Reply_27.l0]
    rw [if_neg (by omega), if_neg (by omega), List.drop_of_length_le (by omega), List.drop_of_length_le (by omega)]
    simp
  | succ d ih =>
    intro i k hi hk
    obtain ⟨k, rfl⟩ := succ_of hk
    have hlt : i < a.length := by omega
    have hlb : i < b.length := by omega
    obtain ⟨i1, i2⟩ := ih (i + 1) k (by omega) (by omega)
    rw [drop_at hlt, drop_at hlb]
    have c1 : (i : Int) < (a.length : Int) := by omega
    have c2 : (i : Int) < (b.length : Int) := by omega
    have c0 : 0 ≤ (i : Int) := by omega
    by_cases h : a[i] = b[i]
    · have hc := mt (rp_ne a[i] b[i]).mp (fun hne => hne h)
      have e : decide (a[i] :: a.drop (i + 1) = b[i] :: b.drop (i + 1)) = decide (a.drop (i + 1) = b.drop (i + 1)) := decide_eq_decide.mpr ⟨fun e => (List.cons.inj e).2, fun e => by rw [e, h]⟩
      rw [e]
      refine ⟨?_, ?_⟩
      · simp only [ebbtideref24_Replies.l0]
        rw [if_pos c1, if_pos c0, if_pos c2, rdP hlt, rdP hlb, if_neg hc, w64s (by omega), i1]
      · simp only [api_Reply_27.l0]
        rw [if_pos c1, if_pos c0, if_pos c1, if_pos c2, rdP hlt, rdP hlb, if_neg hc, w64s (by omega), i2]
    · have hc := (rp_ne a[i] b[i]).mpr h
      have e : decide (a[i] :: a.drop (i + 1) = b[i] :: b.drop (i + 1)) = false := decide_eq_false (fun e => h (List.cons.inj e).1)
      rw [e]
      refine ⟨?_, ?_⟩
      · simp only [ebbtideref24_Replies.l0]
        rw [if_pos c1, if_pos c0, if_pos c2, rdP hlt, rdP hlb, if_pos hc]
      · simp only [api_Reply_27.l0]
        rw [if_pos c1, if_pos c0, if_pos c1, if_pos c2, rdP hlt, rdP hlb, if_pos hc]
theorem replies_eq {a b : List Rp} (hn : a.length < 100000) {k : Nat} (hk : a.length < k) : ebbtideref24_Replies.f k a b = some (decide (a = b)) ∧ api_Reply_27.f k a b = some (decide (a = b)) := by
  unfold ebbtideref24_Replies.f api_Reply_27.f
  by_cases h : a.length = b.length
  · have := replies_l0 hn h a.length 0 k (by omega) hk
    rw [if_pos (by omega), if_pos (by omega)]
    exact this
  · have e : decide (a = b) = false := decide_eq_false (fun e => h (by rw [e]))
    rw [if_neg (by omega), if_neg (by omega), e]
    exact ⟨rfl, rfl⟩
/-- The same frames, and the same sessions. -/
def sameF (a : List Int) (p : Bool) (b : List Int) (q : Bool) : Bool := decide ((strOfNums a).toList = (strOfNums b).toList) && (p == q)
theorem frame_eq (a : List Int) (p : Bool) (b : List Int) (q : Bool) : frame_Same.f a p b q = some (sameF a p b q) ∧ ebbtideref21_Same.f a p b q = some (sameF a p b q) := by
  unfold frame_Same.f ebbtideref21_Same.f sameF bytes_Equal.f
  by_cases h1 : (strOfNums a).toList = (strOfNums b).toList
  · rw [if_pos h1, decide_eq_true h1, Bool.true_and]
    refine ⟨?_, rfl⟩
    cases p <;> cases q <;> simp [h1]
  · rw [if_neg h1, decide_eq_false h1, Bool.false_and]
    refine ⟨?_, rfl⟩
    cases p <;> cases q <;> simp [h1]
theorem same_eq (a : List Int) (p : Bool) (b : List Int) (q : Bool) {v w : List Rp} (hn : v.length < 100000) {k : Nat} (hk : v.length < k) :
    session_Same.f k a p v b q w = some (sameF a p b q && decide (v = w)) ∧ ebbtideref24_Same.f k a p v b q w = some (sameF a p b q && decide (v = w)) := by
  unfold session_Same.f ebbtideref24_Same.f
  have h := replies_eq (b := w) hn hk
  rw [(frame_eq a p b q).1, (frame_eq a p b q).2, h.1, h.2]
  simp only [Option.bind_some]
  cases sameF a p b q
  · exact ⟨rfl, rfl⟩
  · exact ⟨rfl, rfl⟩
theorem same_self (a : List Int) (p : Bool) {v : List Rp} (hn : v.length < 100000) {k : Nat} (hk : v.length < k) : ebbtideref24_Same.f k a p v a p v = some true := by
  rw [(same_eq a p a p hn hk).2]
  simp [sameF]
theorem texts_l0 {a : List ByteArray} (hn : a.length < 100000) (d : Nat) : ∀ (i k : Nat), i + d = a.length → d < k → ebbtideref02_Same.l0 k a a (i : Int) = some true := by
  induction d with
  | zero =>
    intro i k hi hk
    obtain ⟨k, rfl⟩ := succ_of hk
    simp only [ebbtideref02_Same.l0]
    rw [if_neg (by omega)]
  | succ d ih =>
    intro i k hi hk
    obtain ⟨k, rfl⟩ := succ_of hk
    simp only [ebbtideref02_Same.l0]
    rw [if_pos (by omega), if_pos (by omega), if_pos (by omega), if_pos trivial, w64s (by omega)]
    exact ih (i + 1) k (by omega) (by omega)
theorem texts_self {a : List ByteArray} (hn : a.length < 100000) {k : Nat} (hk : a.length < k) : ebbtideref02_Same.f k a a = some true := by
  unfold ebbtideref02_Same.f
  rw [if_pos rfl]
  exact texts_l0 hn a.length 0 k (by omega) hk
theorem great_l0 {w : List Rp} (hw : w.length ≤ 100000) (fr : List Int) (fb : Bool) (d : Nat) : ∀ (i k : Nat), i + d = w.length → d < k → ∃ r, ebbtidelaw24_great.l0 k (i : Int) fr fb w = some r := by
  induction d with
  | zero =>
    intro i k hi hk
    obtain ⟨k, rfl⟩ := succ_of hk
    simp only [ebbtidelaw24_great.l0]
    rw [if_neg (by omega)]
    exact ⟨_, rfl⟩
  | succ d ih =>
    intro i k hi hk
    obtain ⟨k, rfl⟩ := succ_of hk
    simp only [ebbtidelaw24_great.l0]
    rw [if_pos (by omega), if_pos (by omega), w64s (by omega)]
    obtain ⟨r, hr⟩ := ih (i + 1) k (by omega) (by omega)
    rw [hr]
    split <;> exact ⟨_, rfl⟩
theorem great_eq (fr : List Int) (fb : Bool) (w : List Rp) {k : Nat} (hk : 110 ≤ k) : ebbtidelaw24_great.f k fr fb w = some true ∨ (ebbtidelaw24_great.f k fr fb w = some false ∧ w.length ≤ 100) := by
  obtain ⟨k, rfl⟩ := succ_of (show 0 < k by omega)
  unfold ebbtidelaw24_great.f
  simp only [ebbtidelaw24_great.j0]
  by_cases h : (w.length : Int) > 100
  · rw [if_pos h]
    exact .inl rfl
  · rw [if_neg h]
    obtain ⟨r, h1⟩ := great_l0 (w := w) (by omega) fr fb w.length 0 k (by omega) (by omega)
    rw [show ((0 : Nat) : Int) = 0 from rfl] at h1
    rw [h1]
    split
    · exact .inl rfl
    · cases r
      · exact .inr ⟨rfl, by omega⟩
      · exact .inl rfl
theorem alive_eq (k : Nat) (hk : 40 ≤ k) : ebbtidelaw24_alive.f k = some true :=
  at_rounds (g := fun k => ebbtidelaw24_alive.f k) ebbtidelaw24_alive.mono hk (by decide +kernel)
end Go.Proofs.YtjheajgckpfieaaDoor.Pure
