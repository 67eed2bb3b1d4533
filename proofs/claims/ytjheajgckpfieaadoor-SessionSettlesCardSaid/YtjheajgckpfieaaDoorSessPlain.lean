/- What a session tells, in plain Lean: replies that are ready, replies that wait for answers; and that the program's functions and the references' compute just that. Conditions: numbers are of 64 bits, at most 1000 replies, 20 answers of 1000 rows. -/
import Derived.Test.YtjheajgckpfieaaDoorRowsPlain
import Derived.Test.YtjheajgckpfieaaDoorXx5
import Derived.Test.YtjheajgckpfieaaDoorXx6
import Derived.Test.YtjheajgckpfieaaDoorXx7
import Derived.Test.YtjheajgckpfieaaDoorXx13
import Derived.Test.YtjheajgckpfieaaDoorXx16
import Derived.Test.YtjheajgckpfieaaDoorXx14
import Derived.Test.YtjheajgckpfieaaDoorXx6
import Derived.Test.YtjheajgckpfieaaDoorXx9
import Derived.Test.YtjheajgckpfieaaDoorXx9
import Derived.Test.YtjheajgckpfieaaDoorXx8
import Derived.Test.YtjheajgckpfieaaDoorXx15
namespace Go.Proofs.YtjheajgckpfieaaDoor.Pure
open Go.RowKit Go.Proofs.YtjheajgckpfieaaDoor.X Go.Proofs.YtjheajgckpfieaaDoorW.PrintWords Go.Proofs.YtjheajgckpfieaaDoorW.PrintLast Go.Proofs.YtjheajgckpfieaaDoorW.PrintMore Go.Proofs.YtjheajgckpfieaaDoor.Aid Go.Proofs.YtjheajgckpfieaaDoor.Bytes

abbrev Rp := S42
abbrev An := S50
theorem rdP {l : List Rp} {i : Nat} (h : i < l.length) : rd_T42 l (i : Int) = l[i] := getD_at h _
theorem rdA {l : List An} {i : Nat} (h : i < l.length) : rd_T50 l (i : Int) = l[i] := getD_at h _
/-- Is it ready? -/
def rdy (s : Int) (x : Rp) : Bool := if x.f1 = 0 then true else if x.f1 = 1 then decide (x.f2 ≤ s) else false
theorem ready_eq (x : Rp) (s : Int) : session_Ready.f x.f0 x.f1 x.f2 x.f3 s = some (rdy s x) ∧ ebbtideref24_Ready.f x.f0 x.f1 x.f2 x.f3 s = some (rdy s x) := by
  unfold session_Ready.f ebbtideref24_Ready.f rdy
  split
  · exact ⟨rfl, rfl⟩
  · split <;> exact ⟨rfl, rfl⟩
/-- Answers that may be told. -/
def GAns (A : List An) : Prop := A.length ≤ 20 ∧ ∀ a ∈ A, I64 a.f1 ∧ GRows a.f2
/-- The first answer of a number. -/
def fnd (d : Int) : List An → Option An
  | [] => none
  | a :: A => if a.f0 = d then some a else fnd d A
theorem fnd_cons (d : Int) (a : An) (A : List An) : fnd d (a :: A) = if a.f0 = d then some a else fnd d A := rfl
theorem fnd_mem {d : Int} : ∀ {A : List An} {a : An}, fnd d A = some a → a ∈ A
  | [], _, h => by simp [fnd] at h
  | b :: A, a, h => by
    unfold fnd at h
    split at h
    · cases h; exact List.mem_cons_self
    · exact List.mem_cons_of_mem _ (fnd_mem h)
/-- A reply, by answers. -/
def told (A : List An) (x : Rp) : Rp := if x.f1 = 2 then (match fnd x.f3 A with | none => x | some a => ⟨mk (ansT a.f1 a.f2), 0, 0, 0⟩) else x
def tup (x : Rp) : ByteArray × Int × Int × Int := (x.f0, x.f1, x.f2, x.f3)
theorem idx_fnd (d : Int) : ∀ (A : List An) (i : Nat), (fnd d A = none ∧ api_Answer.idx (fun x => x.f0 == d) A i = -1) ∨ ∃ j : Nat, ∃ h : j < A.length, fnd d A = some A[j] ∧ api_Answer.idx (fun x => x.f0 == d) A i = ((i + j : Nat) : Int)
  | [], i => .inl ⟨rfl, rfl⟩
  | a :: A, i => by
    unfold fnd api_Answer.idx
    by_cases h : a.f0 = d
    · rw [if_pos h, if_pos (beq_iff_eq.mpr h)]
      exact .inr ⟨0, by simp, rfl, rfl⟩
    · rw [if_neg h, if_neg (by simpa using h)]
      rcases idx_fnd d A (i + 1) with ⟨h1, h2⟩ | ⟨j, hj, h1, h2⟩
      · exact .inl ⟨h1, h2⟩
      · exact .inr ⟨j + 1, by simp; omega, by rw [h1]; rfl, by rw [h2]; congr 1; omega⟩
theorem answer_eq {A : List An} (hA : GAns A) (x : Rp) {k : Nat} (hk : 2200 ≤ k) : session_answer.f k x.f0 x.f1 x.f2 x.f3 A = some (tup (told A x)) := by
  unfold session_answer.f told
  by_cases h : x.f1 = 2
  · rw [if_pos h, if_pos h]
    rcases idx_fnd x.f3 A 0 with ⟨h1, h2⟩ | ⟨j, hj, h1, h2⟩
    · rw [h2, if_pos (by decide), h1]
      rfl
    · rw [Nat.zero_add] at h2
      have hg := hA.2 _ (List.getElem_mem hj)
      rw [h2, if_neg (by omega), h1, rdA hj, (ans_eq A[j].f0 hg.1 hg.2 hk).1]
      rfl
  · rw [if_neg h, if_neg h]
    rfl
theorem ranswered_l0 {A : List An} (hA : GAns A) (x : Rp) (d : Nat) : ∀ (i k : Nat), i + d = A.length → d + 2200 < k → ebbtideref24_answered.l0 k A (i : Int) x.f0 x.f1 x.f2 x.f3 = some (tup (told (A.drop i) x)) := by
  have hl := hA.1
  induction d with
  | zero =>
    intro i k hi hk
    obtain ⟨k, rfl⟩ := succ_of (show 0 < k by omega)
    simp only [ebbtideref24_answered.l0]
    rw [if_neg (by omega), List.drop_of_length_le (by omega)]
    unfold told
    split <;> rfl
  | succ d ih =>
    intro i k hi hk
    obtain ⟨k, rfl⟩ := succ_of (show 0 < k by omega)
    have hlt : i < A.length := by omega
    have hg := hA.2 _ (List.getElem_mem hlt)
    have hi1 := ih (i + 1) k (by omega) (by omega)
    simp only [ebbtideref24_answered.l0]
    rw [if_pos (by omega), w64s (by omega), hi1, drop_at hlt]
    unfold told
    rw [fnd_cons]
    by_cases h : x.f1 = 2
    · rw [if_pos h, if_pos h, if_pos h, if_pos (by omega), rdA hlt]
      by_cases h2 : A[i].f0 = x.f3
      · rw [if_pos h2, if_pos h2, (ans_eq A[i].f0 hg.1 hg.2 (by omega)).2]
        rfl
      · rw [if_neg h2, if_neg h2]
    · rw [if_neg h, if_neg h, if_neg h]
theorem ranswered_eq {A : List An} (hA : GAns A) (x : Rp) {k : Nat} (hk : 2300 ≤ k) : ebbtideref24_answered.f k x.f0 x.f1 x.f2 x.f3 A = some (tup (told A x)) := by
  have hl := hA.1
  have h := ranswered_l0 hA x A.length 0 k (by omega) (by omega)
  rw [List.drop_zero] at h
  exact h
/-- What is told, and what waits still. -/
def rest (s : Int) (w : List Rp) : List Rp := w.dropWhile (rdy s)
def outs (s : Int) (w : List Rp) : List ByteArray := (w.takeWhile (rdy s)).map (·.f0)
theorem rest_cons (s : Int) (x : Rp) (w : List Rp) : rest s (x :: w) = if rdy s x = true then rest s w else x :: w := List.dropWhile_cons
theorem outs_cons (s : Int) (x : Rp) (w : List Rp) : outs s (x :: w) = if rdy s x = true then x.f0 :: outs s w else [] := by
  unfold outs
  rw [List.takeWhile_cons]
  split <;> rfl
theorem l1_both (s : Int) (fr : List Int) (fb : Bool) (ow : List Rp) : ∀ (w : List Rp) (k : Nat) (out : List ByteArray), w.length < k → out.length + w.length ≤ 100000 →
    session_Settle.l1 k s out w fr fb ow = some (fr, fb, rest s w, out ++ outs s w) ∧ ebbtideref24_Settle.l1 k s w out fr fb ow = some (fr, fb, rest s w, out ++ outs s w)
  | [], k, out, hk, hb => by
    obtain ⟨k, rfl⟩ := succ_of hk
    simp only [session_Settle.l1, ebbtideref24_Settle.l1]
    rw [if_neg (by simp), if_neg (by simp)]
    simp [rest, outs]
  | x :: w, k, out, hk, hb => by
    obtain ⟨k, rfl⟩ := succ_of hk
    rw [List.length_cons] at hk hb
    have h0 : rd_T42 (x :: w) 0 = x := rfl
    have e := ready_eq x s
    have hd : (x :: w).drop ((1 : Int)).toNat = w := rfl
    have hp : ((x :: w).length : Int) > 0 := by rw [List.length_cons]; omega
    have h1 : 1 ≤ ((x :: w).length : Int) := by rw [List.length_cons]; omega
    have ho : out.length < 8796093022208 := by omega
    rw [rest_cons, outs_cons]
    by_cases h : rdy s x = true
    · obtain ⟨i1, i2⟩ := l1_both s fr fb ow w k (out ++ [x.f0]) (by omega) (by rw [List.length_append, List.length_singleton]; omega)
      rw [if_pos h, if_pos h]
      refine ⟨?_, ?_⟩
      · simp only [session_Settle.l1]
        rw [h0, e.1, hd, if_pos hp, if_pos hp, Option.bind_some, if_pos h, if_pos ho, if_pos h1, i1, List.append_assoc]
        rfl
      · simp only [ebbtideref24_Settle.l1]
        rw [h0, e.2, hd, if_pos hp, if_pos hp, Option.bind_some, if_pos h, if_pos ho, if_pos h1, i2, List.append_assoc]
        rfl
    · rw [if_neg h, if_neg h, List.append_nil]
      refine ⟨?_, ?_⟩
      · simp only [session_Settle.l1]
        rw [h0, e.1, if_pos hp, if_pos hp, Option.bind_some, if_neg h]
      · simp only [ebbtideref24_Settle.l1]
        rw [h0, e.2, if_pos hp, if_pos hp, Option.bind_some, if_neg h]
theorem settle_l0 {A : List An} (hA : GAns A) (s : Int) (fr : List Int) (fb : Bool) (ow w : List Rp) (hw : w.length ≤ 1000) (d : Nat) : ∀ (i k : Nat), i + d = w.length → d + 5000 < k →
    session_Settle.l0 k s A ((w.take i).map (told A) ++ w.drop i) (w.length : Int) (i : Int) fr fb ow = some (fr, fb, rest s (w.map (told A)), outs s (w.map (told A))) := by
  induction d with
  | zero =>
    intro i k hi hk
    obtain ⟨k, rfl⟩ := succ_of (show 0 < k by omega)
    simp only [session_Settle.l0]
    rw [if_neg (by omega), List.take_of_length_le (by omega), List.drop_of_length_le (by omega), List.append_nil]
    exact (l1_both s fr fb ow _ k [] (by rw [List.length_map]; omega) (by rw [List.length_map]; simp; omega)).1
  | succ d ih =>
    intro i k hi hk
    obtain ⟨k, rfl⟩ := succ_of (show 0 < k by omega)
    have hlt : i < w.length := by omega
    have ht : ((w.take i).map (told A)).length = i := by rw [List.length_map, List.length_take]; omega
    have hln : ((w.take i).map (told A) ++ w.drop i).length = w.length := by rw [List.length_append, ht, List.length_drop]; omega
    have hr : rd_T42 ((w.take i).map (told A) ++ w.drop i) (i : Int) = w[i] := by
      rw [rdP (by omega), List.getElem_append_right (by omega)]
      simp only [ht, Nat.sub_self]
      rw [List.getElem_drop]
      rfl
    have hs : ((w.take i).map (told A) ++ w.drop i).set ((i : Int)).toNat (told A w[i]) = (w.take (i + 1)).map (told A) ++ w.drop (i + 1) := by
      rw [Int.toNat_natCast, List.set_append_right _ _ (by omega), ht, Nat.sub_self, drop_at hlt, List.set_cons_zero, take_at hlt, List.map_append, List.append_assoc]
      rfl
    simp only [session_Settle.l0]
    rw [if_pos (by omega), if_pos (by omega), if_pos (by rw [hln]; omega), hr, answer_eq hA _ (by omega), Option.bind_some, w64s (by omega)]
    have hs2 : ((w.take i).map (told A) ++ w.drop i).set ((i : Int)).toNat (⟨(tup (told A w[i])).1, (tup (told A w[i])).2.1, (tup (told A w[i])).2.2.1, (tup (told A w[i])).2.2.2⟩ : Rp) = (w.take (i + 1)).map (told A) ++ w.drop (i + 1) := hs
    rw [hs2]
    exact ih (i + 1) k (by omega) (by omega)
theorem settle_eq {A : List An} (hA : GAns A) (s : Int) (fr : List Int) (fb : Bool) {w : List Rp} (hw : w.length ≤ 1000) {k : Nat} (hk : 7000 ≤ k) :
    session_Settle.f k fr fb w s A = some (fr, fb, rest s (w.map (told A)), outs s (w.map (told A))) := by
  unfold session_Settle.f api_Reply_21.f
  rw [if_pos (by omega), Option.bind_some]
  have h := settle_l0 hA s fr fb w w hw w.length 0 k (by omega) (by omega)
  rw [List.drop_zero] at h
  exact h
theorem rsettle_l0 {A : List An} (hA : GAns A) (s : Int) (fr : List Int) (fb : Bool) (w : List Rp) (hw : w.length ≤ 1000) (d : Nat) : ∀ (i k : Nat), i + d = w.length → d + 5000 < k →
    ebbtideref24_Settle.l0 k s A ((w.take i).map (told A)) (i : Int) fr fb w = some (fr, fb, rest s (w.map (told A)), outs s (w.map (told A))) := by
  induction d with
  | zero =>
    intro i k hi hk
    obtain ⟨k, rfl⟩ := succ_of (show 0 < k by omega)
    simp only [ebbtideref24_Settle.l0]
    rw [if_neg (by omega), List.take_of_length_le (by omega)]
    exact (l1_both s fr fb w _ k [] (by rw [List.length_map]; omega) (by rw [List.length_map]; simp; omega)).2
  | succ d ih =>
    intro i k hi hk
    obtain ⟨k, rfl⟩ := succ_of (show 0 < k by omega)
    have hlt : i < w.length := by omega
    have hs : (w.take i).map (told A) ++ [(⟨(tup (told A w[i])).1, (tup (told A w[i])).2.1, (tup (told A w[i])).2.2.1, (tup (told A w[i])).2.2.2⟩ : Rp)] = (w.take (i + 1)).map (told A) := by
      rw [take_at hlt, List.map_append]
      rfl
    simp only [ebbtideref24_Settle.l0]
    rw [if_pos (by omega), if_pos (by omega), rdP hlt, ranswered_eq hA _ (by omega), Option.bind_some, if_pos (by rw [List.length_map, List.length_take]; omega), w64s (by omega), hs]
    exact ih (i + 1) k (by omega) (by omega)
theorem rsettle_eq {A : List An} (hA : GAns A) (s : Int) (fr : List Int) (fb : Bool) {w : List Rp} (hw : w.length ≤ 1000) {k : Nat} (hk : 7000 ≤ k) :
    ebbtideref24_Settle.f k fr fb w s A = some (fr, fb, rest s (w.map (told A)), outs s (w.map (told A))) := by
  have h := rsettle_l0 hA s fr fb w hw w.length 0 k (by omega) (by omega)
  exact h
/-- The same replies. -/
theorem rp_ne (x y : Rp) : ((!(x.f0.toList == y.f0.toList) || (!(x.f1 == y.f1) || (!(x.f2 == y.f2) || (!(x.f3 == y.f3))))) = true) ↔ x ≠ y := by
  have hb : x.f0.toList = y.f0.toList ↔ x.f0 = y.f0 := by
    constructor
    · intro h
      rw [ByteArray.toList_eq, ByteArray.toList_eq] at h
      rw [← mk_eta x.f0, ← mk_eta y.f0, h]
    · intro h
      rw [h]
  obtain ⟨a, b, c, d⟩ := x
  obtain ⟨a', b', c', d'⟩ := y
  simp only [Bool.or_eq_true, Bool.not_eq_true', beq_eq_false_iff_ne, ne_eq, S42.mk.injEq]
  simp only at hb
  rw [hb]
  by_cases h1 : a = a' <;> by_cases h2 : b = b' <;> by_cases h3 : c = c' <;> by_cases h4 : d = d' <;> simp [h1, h2, h3, h4]
instance : DecidableEq Rp := fun x y => if h : ((!(x.f0.toList == y.f0.toList) || (!(x.f1 == y.f1) || (!(x.f2 == y.f2) || (!(x.f3 == y.f3))))) = true) then isFalse ((rp_ne x y).mp h) else isTrue (Classical.byContradiction fun hn => h ((rp_ne x y).mpr hn))
theorem replies_l0 {a b : List Rp} (hn : a.length < 100000) (he : a.length = b.length) (d : Nat) : ∀ (i k : Nat), i + d = a.length → d < k →
    ebbtideref24_Replies.l0 k a b (i : Int) = some (decide (a.drop i = b.drop i)) ∧ api_Reply_27.l0 k a b (a.length : Int) (i : Int) = some (decide (a.drop i = b.drop i)) := by
  induction d with
  | zero =>
    intro i k hi hk
    obtain ⟨k, rfl⟩ := succ_of hk
    simp only [ebbtideref24_Replies.l0, api_Reply_27.l0]
    rw [if_neg (by omega), if_neg (by omega), List.drop_of_length_le (by omega), List.drop_of_length_le (by omega)]
    simp
  | succ d ih =>
    intro i k hi hk
    obtain ⟨k, rfl⟩ := succ_of hk
    have hlt : i < a.length := by omega
    have hlb : i < b.length := by omega
    obtain ⟨i1, i2⟩ := ih (i + 1) k (by omega) (by omega)
    rw [drop_at hlt, drop_at hlb]
    have c1 : (i : Int) < (a.length : Int) := by omega
    have c2 : (i : Int) < (b.length : Int) := by omega
    have c0 : 0 ≤ (i : Int) := by omega
    by_cases h : a[i] = b[i]
    · have hc := mt (rp_ne a[i] b[i]).mp (fun hne => hne h)
      have e : decide (a[i] :: a.drop (i + 1) = b[i] :: b.drop (i + 1)) = decide (a.drop (i + 1) = b.drop (i + 1)) := decide_eq_decide.mpr ⟨fun e => (List.cons.inj e).2, fun e => by rw [e, h]⟩
      rw [e]
      refine ⟨?_, ?_⟩
      · simp only [ebbtideref24_Replies.l0]
        rw [if_pos c1, if_pos c0, if_pos c2, rdP hlt, rdP hlb, if_neg hc, w64s (by omega), i1]
      · simp only [api_Reply_27.l0]
        rw [if_pos c1, if_pos c0, if_pos c1, if_pos c2, rdP hlt, rdP hlb, if_neg hc, w64s (by omega), i2]
    · have hc := (rp_ne a[i] b[i]).mpr h
      have e : decide (a[i] :: a.drop (i + 1) = b[i] :: b.drop (i + 1)) = false := decide_eq_false (fun e => h (List.cons.inj e).1)
      rw [e]
      refine ⟨?_, ?_⟩
      · simp only [ebbtideref24_Replies.l0]
        rw [if_pos c1, if_pos c0, if_pos c2, rdP hlt, rdP hlb, if_pos hc]
      · simp only [api_Reply_27.l0]
        rw [if_pos c1, if_pos c0, if_pos c1, if_pos c2, rdP hlt, rdP hlb, if_pos hc]
theorem replies_eq {a b : List Rp} (hn : a.length < 100000) {k : Nat} (hk : a.length < k) : ebbtideref24_Replies.f k a b = some (decide (a = b)) ∧ api_Reply_27.f k a b = some (decide (a = b)) := by
  unfold ebbtideref24_Replies.f api_Reply_27.f
  by_cases h : a.length = b.length
  · have := replies_l0 hn h a.length 0 k (by omega) hk
    rw [if_pos (by omega), if_pos (by omega)]
    exact this
  · have e : decide (a = b) = false := decide_eq_false (fun e => h (by rw [e]))
    rw [if_neg (by omega), if_neg (by omega), e]
    exact ⟨rfl, rfl⟩
/-- The same frames, and the same sessions. -/
def sameF (a : List Int) (p : Bool) (b : List Int) (q : Bool) : Bool := decide ((strOfNums a).toList = (strOfNums b).toList) && (p == q)
theorem frame_eq (a : List Int) (p : Bool) (b : List Int) (q : Bool) : frame_Same.f a p b q = some (sameF a p b q) ∧ ebbtideref21_Same.f a p b q = some (sameF a p b q) := by
  unfold frame_Same.f ebbtideref21_Same.f sameF bytes_Equal.f
  by_cases h1 : (strOfNums a).toList = (strOfNums b).toList
  · rw [if_pos h1, decide_eq_true h1, Bool.true_and]
    refine ⟨?_, rfl⟩
    cases p <;> cases q <;> simp [h1]
  · rw [if_neg h1, decide_eq_false h1, Bool.false_and]
    refine ⟨?_, rfl⟩
    cases p <;> cases q <;> simp [h1]
theorem same_eq (a : List Int) (p : Bool) (b : List Int) (q : Bool) {v w : List Rp} (hn : v.length < 100000) {k : Nat} (hk : v.length < k) :
    session_Same.f k a p v b q w = some (sameF a p b q && decide (v = w)) ∧ ebbtideref24_Same.f k a p v b q w = some (sameF a p b q && decide (v = w)) := by
  unfold session_Same.f ebbtideref24_Same.f
  have h := replies_eq (b := w) hn hk
  rw [(frame_eq a p b q).1, (frame_eq a p b q).2, h.1, h.2]
  simp only [Option.bind_some]
  cases sameF a p b q
  · exact ⟨rfl, rfl⟩
  · exact ⟨rfl, rfl⟩
theorem same_self (a : List Int) (p : Bool) {v : List Rp} (hn : v.length < 100000) {k : Nat} (hk : v.length < k) : ebbtideref24_Same.f k a p v a p v = some true := by
  rw [(same_eq a p a p hn hk).2]
  simp [sameF]
theorem texts_l0 {a : List ByteArray} (hn : a.length < 100000) (d : Nat) : ∀ (i k : Nat), i + d = a.length → d < k → ebbtideref02_Same.l0 k a a (i : Int) = some true := by
  induction d with
  | zero =>
    intro i k hi hk
    obtain ⟨k, rfl⟩ := succ_of hk
    simp only [ebbtideref02_Same.l0]
    rw [if_neg (by omega)]
  | succ d ih =>
    intro i k hi hk
    obtain ⟨k, rfl⟩ := succ_of hk
    simp only [ebbtideref02_Same.l0]
    rw [if_pos (by omega), if_pos (by omega), if_pos (by omega), if_pos trivial, w64s (by omega)]
    exact ih (i + 1) k (by omega) (by omega)
theorem texts_self {a : List ByteArray} (hn : a.length < 100000) {k : Nat} (hk : a.length < k) : ebbtideref02_Same.f k a a = some true := by
  unfold ebbtideref02_Same.f
  rw [if_pos rfl]
  exact texts_l0 hn a.length 0 k (by omega) hk
theorem great_l0 {w : List Rp} (hw : w.length ≤ 100000) (fr : List Int) (fb : Bool) (d : Nat) : ∀ (i k : Nat), i + d = w.length → d < k → ∃ r, ebbtidelaw24_great.l0 k (i : Int) fr fb w = some r := by
  induction d with
  | zero =>
    intro i k hi hk
    obtain ⟨k, rfl⟩ := succ_of hk
    simp only [ebbtidelaw24_great.l0]
    rw [if_neg (by omega)]
    exact ⟨_, rfl⟩
  | succ d ih =>
    intro i k hi hk
    obtain ⟨k, rfl⟩ := succ_of hk
    simp only [ebbtidelaw24_great.l0]
    rw [if_pos (by omega), if_pos (by omega), w64s (by omega)]
    obtain ⟨r, hr⟩ := ih (i + 1) k (by omega) (by omega)
    rw [hr]
    split <;> exact ⟨_, rfl⟩
theorem great_eq (fr : List Int) (fb : Bool) (w : List Rp) {k : Nat} (hk : 110 ≤ k) : ebbtidelaw24_great.f k fr fb w = some true ∨ (ebbtidelaw24_great.f k fr fb w = some false ∧ w.length ≤ 100) := by
  obtain ⟨k, rfl⟩ := succ_of (show 0 < k by omega)
  unfold ebbtidelaw24_great.f
  simp only [ebbtidelaw24_great.j0]
  by_cases h : (w.length : Int) > 100
  · rw [if_pos h]
    exact .inl rfl
  · rw [if_neg h]
    obtain ⟨r, h1⟩ := great_l0 (w := w) (by omega) fr fb w.length 0 k (by omega) (by omega)
    rw [show ((0 : Nat) : Int) = 0 from rfl] at h1
    rw [h1]
    split
    · exact .inl rfl
    · cases r
      · exact .inr ⟨rfl, by omega⟩
      · exact .inl rfl
theorem rgreat_l0 {l : List Rw} (hl : l.length ≤ 100000) (d : Nat) : ∀ (i k : Nat), i + d = l.length → d < k → ∃ r, ebbtideref08_Great.l0 k l (i : Int) = some r ∧ (r = false → ∀ x ∈ l.drop i, x.f1.size ≤ 300) := by
  induction d with
  | zero =>
    intro i k hi hk
    obtain ⟨k, rfl⟩ := succ_of hk
    simp only [ebbtideref08_Great.l0]
    rw [if_neg (by omega), List.drop_of_length_le (by omega)]
    exact ⟨_, rfl, fun _ x hx => absurd hx (by simp)⟩
  | succ d ih =>
    intro i k hi hk
    obtain ⟨k, rfl⟩ := succ_of hk
    have hlt : i < l.length := by omega
    simp only [ebbtideref08_Great.l0]
    rw [if_pos (by omega), if_pos (by omega), w64s (by omega), rdR hlt]
    obtain ⟨r, hr, h2⟩ := ih (i + 1) k (by omega) (by omega)
    rw [hr]
    by_cases h : (l[i].f1.size : Int) > 300
    · rw [if_pos h]
      exact ⟨_, rfl, fun e => by cases e⟩
    · rw [if_neg h]
      refine ⟨r, rfl, fun e x hx => ?_⟩
      rw [drop_at hlt, List.mem_cons] at hx
      rcases hx with rfl | hx
      · omega
      · exact h2 e x hx
theorem rgreat_eq (l : List Rw) {k : Nat} (hk : 110 ≤ k) : ebbtideref08_Great.f k l = some true ∨ (ebbtideref08_Great.f k l = some false ∧ l.length ≤ 100 ∧ ∀ x ∈ l, x.f1.size ≤ 300) := by
  unfold ebbtideref08_Great.f
  by_cases h : (l.length : Int) > 100
  · rw [if_pos h]
    exact .inl rfl
  · rw [if_neg h]
    obtain ⟨r, h1, h2⟩ := rgreat_l0 (l := l) (by omega) l.length 0 k (by omega) (by omega)
    cases r
    · exact .inr ⟨h1, by omega, h2 rfl⟩
    · exact .inl h1
theorem much_l0 {A : List An} (hl : A.length ≤ 100000) (d : Nat) : ∀ (i k : Nat), i + d = A.length → d + 120 < k → ∃ r, ebbtidelaw24_much.l0 k A (i : Int) = some r ∧ (r = false → ∀ x ∈ A.drop i, x.f2.length ≤ 100 ∧ ∀ y ∈ x.f2, y.f1.size ≤ 300) := by
  induction d with
  | zero =>
    intro i k hi hk
    obtain ⟨k, rfl⟩ := succ_of (show 0 < k by omega)
    simp only [ebbtidelaw24_much.l0]
    rw [if_neg (by omega), List.drop_of_length_le (by omega)]
    exact ⟨_, rfl, fun _ x hx => absurd hx (by simp)⟩
  | succ d ih =>
    intro i k hi hk
    obtain ⟨k, rfl⟩ := succ_of (show 0 < k by omega)
    have hlt : i < A.length := by omega
    simp only [ebbtidelaw24_much.l0]
    rw [if_pos (by omega), if_pos (by omega), w64s (by omega), rdA hlt]
    obtain ⟨r, hr, h2⟩ := ih (i + 1) k (by omega) (by omega)
    rw [hr]
    rcases rgreat_eq A[i].f2 (k := k) (by omega) with h | ⟨h, h3, h4⟩
    · rw [h, Option.bind_some, if_pos rfl]
      exact ⟨_, rfl, fun e => by cases e⟩
    · rw [h, Option.bind_some, if_neg (by decide)]
      refine ⟨r, rfl, fun e x hx => ?_⟩
      rw [drop_at hlt, List.mem_cons] at hx
      rcases hx with rfl | hx
      · exact ⟨h3, h4⟩
      · exact h2 e x hx
theorem much_eq (A : List An) (hq : ∀ x ∈ A, Q50 x) {k : Nat} (hk : 200 ≤ k) : ebbtidelaw24_much.f k A = some true ∨ (ebbtidelaw24_much.f k A = some false ∧ GAns A) := by
  unfold ebbtidelaw24_much.f
  by_cases h : (A.length : Int) > 20
  · rw [if_pos h]
    exact .inl rfl
  · rw [if_neg h]
    obtain ⟨r, h1, h2⟩ := much_l0 (A := A) (by omega) A.length 0 k (by omega) (by omega)
    cases r
    · refine .inr ⟨h1, by omega, fun a ha => ?_⟩
      have h3 := h2 rfl a ha
      have h4 := hq a ha
      refine ⟨wf64 h4.2.1, by omega, fun y hy => ?_⟩
      have h5 := h4.2.2.2 y hy
      have h6 := h3.2 y hy
      exact ⟨wf64 h5.1, by omega, wf64 h5.2.2.1⟩
    · exact .inl h1
theorem alive_eq (k : Nat) (hk : 40 ≤ k) : ebbtidelaw24_alive.f k = some true :=
  at_rounds (g := fun k => ebbtidelaw24_alive.f k) ebbtidelaw24_alive.mono hk (by decide +kernel)
theorem told_nil (x : Rp) : told [] x = x := by
  unfold told fnd
  split <;> rfl
theorem map_nil (w : List Rp) : w.map (told []) = w := by
  conv => rhs; rw [← List.map_id w]
  exact List.map_congr_left (fun x _ => told_nil x)
theorem gnil : GAns [] := ⟨by simp, fun a ha => absurd ha (by simp)⟩
theorem parts (s : Int) (w : List Rp) : (outs s w).length + (rest s w).length = w.length := by
  unfold outs rest
  rw [List.length_map, ← List.length_append, List.takeWhile_append_dropWhile]
end Go.Proofs.YtjheajgckpfieaaDoor.Pure
