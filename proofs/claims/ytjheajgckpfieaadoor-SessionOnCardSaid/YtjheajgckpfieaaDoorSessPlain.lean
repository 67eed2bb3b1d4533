/- What a session tells, in plain Lean: replies that wait for answers; and that the program's functions compute just that. Conditions: numbers are of 64 bits, at most 1000 replies, 20 answers of 1000 rows. -/
import Derived.Test.YtjheajgckpfieaaDoorSessSame
import Derived.Test.YtjheajgckpfieaaDoorAnsPlain
import Derived.Test.YtjheajgckpfieaaDoorXx5
import Derived.Test.YtjheajgckpfieaaDoorXx9
import Derived.Test.YtjheajgckpfieaaDoorXxQ
namespace Go.Proofs.YtjheajgckpfieaaDoor.Pure
open Go.RowKit Go.Proofs.YtjheajgckpfieaaDoor.X Go.Proofs.YtjheajgckpfieaaDoorW.PrintWords Go.Proofs.YtjheajgckpfieaaDoorW.PrintLast Go.Proofs.YtjheajgckpfieaaDoorW.PrintMore Go.Proofs.YtjheajgckpfieaaDoor.Aid Go.Proofs.YtjheajgckpfieaaDoor.Bytes

abbrev An := S50
theorem rdA {l : List An} {i : Nat} (h : i < l.length) : rd_T50 l (i : Int) = l[i] := getD_at h _
/-- Answers that may be told. -/
def GAns (A : List An) : Prop := A.length ≤ 20 ∧ ∀ a ∈ A, I64 a.f1 ∧ GRows a.f2
/-- The first answer of a number. -/
def fnd (d : Int) : List An → Option An
  | [] => none
  | a :: A => if a.f0 = d then some a else fnd d A
theorem fnd_cons (d : Int) (a : An) (A : List An) : fnd d (a :: A) = if a.f0 = d then some a else fnd d A := rfl
theorem fnd_mem {d : Int} : ∀ {A : List An} {a : An}, fnd d A = some a → a ∈ A
  | [], _, h => by simp [fnd] at h
  | b :: A, a, h => by
    unfold fnd at h
    split at h
    · cases h; exact List.mem_cons_self
    · exact List.mem_cons_of_mem _ (fnd_mem h)
/-- A reply, by answers. -/
def told (A : List An) (x : Rp) : Rp := if x.f1 = 2 then (match fnd x.f3 A with | none => x | some a => ⟨mk (ansT a.f1 a.f2), 0, 0, 0⟩) else x
def tup (x : Rp) : ByteArray × Int × Int × Int := (x.f0, x.f1, x.f2, x.f3)
theorem idx_fnd (d : Int) : ∀ (A : List An) (i : Nat), (fnd d A = none ∧ api_Answer.idx (fun x => x.f0 == d) A i = -1) ∨ ∃ j : Nat, ∃ h : j < A.length, fnd d A = some A[j] ∧ api_Answer.idx (fun x => x.f0 == d) A i = ((i + j : Nat) : Int)
  | [], i => .inl ⟨rfl, rfl⟩
  | a :: A, i => by
    unfold fnd api_Answer.idx
    by_cases h : a.f0 = d
    · rw [if_pos h, if_pos (beq_iff_eq.mpr h)]
      exact .inr ⟨0, by simp, rfl, rfl⟩
    · rw [if_neg h, if_neg (by simpa using h)]
      rcases idx_fnd d A (i + 1) with ⟨h1, h2⟩ | ⟨j, hj, h1, h2⟩
      · exact .inl ⟨h1, h2⟩
      · exact .inr ⟨j + 1, by simp; omega, by rw [h1]; rfl, by rw [h2]; congr 1; omega⟩
theorem answer_eq {A : List An} (hA : GAns A) (x : Rp) {k : Nat} (hk : 2200 ≤ k) : session_answer.f k x.f0 x.f1 x.f2 x.f3 A = some (tup (told A x)) := by
  unfold session_answer.f told
  by_cases h : x.f1 = 2
  · rw [if_pos h, if_pos h]
    rcases idx_fnd x.f3 A 0 with ⟨h1, h2⟩ | ⟨j, hj, h1, h2⟩
    · rw [h2, if_pos (by decide), h1]
      rfl
    · rw [Nat.zero_add] at h2
      have hg := hA.2 _ (List.getElem_mem hj)
      rw [h2, if_neg (by omega), h1, rdA hj, ans_eq A[j].f0 hg.1 hg.2 hk]
      rfl
  · rw [if_neg h, if_neg h]
    rfl
/-- What is told, and what waits still. -/
def rest (s : Int) (w : List Rp) : List Rp := w.dropWhile (rdy s)
def outs (s : Int) (w : List Rp) : List ByteArray := (w.takeWhile (rdy s)).map (·.f0)
theorem rest_cons (s : Int) (x : Rp) (w : List Rp) : rest s (x :: w) = if rdy s x = true then rest s w else x :: w := List.dropWhile_cons
theorem outs_cons (s : Int) (x : Rp) (w : List Rp) : outs s (x :: w) = if rdy s x = true then x.f0 :: outs s w else [] := by
  unfold outs
  rw [List.takeWhile_cons]
  split <;> rfl
theorem l1_own (s : Int) (fr : List Int) (fb : Bool) (ow : List Rp) : ∀ (w : List Rp) (k : Nat) (out : List ByteArray), w.length < k → out.length + w.length ≤ 100000 →
    session_Settle.l1 k s out w fr fb ow = some (fr, fb, rest s w, out ++ outs s w)
  | [], k, out, hk, hb => by
    obtain ⟨k, rfl⟩ := succ_of hk
    simp only [session_Settle.l1]
    rw [if_neg (by simp)]
    simp [rest, outs]
  | x :: w, k, out, hk, hb => by
    obtain ⟨k, rfl⟩ := succ_of hk
    rw [List.length_cons] at hk hb
    have h0 : rd_T42 (x :: w) 0 = x := rfl
    have e := ready_eq x s
    have hd : (x :: w).drop ((1 : Int)).toNat = w := rfl
    have hp : ((x :: w).length : Int) > 0 := by rw [List.length_cons]; omega
    have h1 : 1 ≤ ((x :: w).length : Int) := by rw [List.length_cons]; omega
    have ho : out.length < 8796093022208 := by omega
    rw [rest_cons, outs_cons]
    by_cases h : rdy s x = true
    · have ih := l1_own s fr fb ow w k (out ++ [x.f0]) (by omega) (by rw [List.length_append, List.length_singleton]; omega)
      rw [if_pos h, if_pos h]
      simp only [session_Settle.l1]
      rw [h0, e.1, hd, if_pos hp, if_pos hp, Option.bind_some, if_pos h, if_pos ho, if_pos h1, ih, List.append_assoc]
      rfl
    · rw [if_neg h, if_neg h, List.append_nil]
      simp only [session_Settle.l1]
      rw [h0, e.1, if_pos hp, if_pos hp, Option.bind_some, if_neg h]
theorem settle_l0 {A : List An} (hA : GAns A) (s : Int) (fr : List Int) (fb : Bool) (ow w : List Rp) (hw : w.length ≤ 1000) (d : Nat) : ∀ (i k : Nat), i + d = w.length → d + 5000 < k →
    session_Settle.l0 k s A ((w.take i).map (told A) ++ w.drop i) (w.length : Int) (i : Int) fr fb ow = some (fr, fb, rest s (w.map (told A)), outs s (w.map (told A))) := by
  induction d with
  | zero =>
    intro i k hi hk
    obtain ⟨k, rfl⟩ := succ_of (show 0 < k by omega)
    simp only [session_Settle.l0]
    rw [if_neg (by omega), List.take_of_length_le (by omega), List.drop_of_length_le (by omega), List.append_nil]
    exact l1_own s fr fb ow _ k [] (by rw [List.length_map]; omega) (by rw [List.length_map]; simp; omega)
  | succ d ih =>
    intro i k hi hk
    obtain ⟨k, rfl⟩ := succ_of (show 0 < k by omega)
    have hlt : i < w.length := by omega
    have ht : ((w.take i).map (told A)).length = i := by rw [List.length_map, List.length_take]; omega
    have hln : ((w.take i).map (told A) ++ w.drop i).length = w.length := by rw [List.length_append, ht, List.length_drop]; omega
    have hr : rd_T42 ((w.take i).map (told A) ++ w.drop i) (i : Int) = w[i] := by
      rw [rdP (by omega), List.getElem_append_right (by omega)]
      simp only [ht, Nat.sub_self]
      rw [List.getElem_drop]
      rfl
    have hs : ((w.take i).map (told A) ++ w.drop i).set ((i : Int)).toNat (told A w[i]) = (w.take (i + 1)).map (told A) ++ w.drop (i + 1) := by
      rw [Int.toNat_natCast, List.set_append_right _ _ (by omega), ht, Nat.sub_self, drop_at hlt, List.set_cons_zero, take_at hlt, List.map_append, List.append_assoc]
      rfl
    simp only [session_Settle.l0]
    rw [if_pos (by omega), if_pos (by omega), if_pos (by rw [hln]; omega), hr, answer_eq hA _ (by omega), Option.bind_some, w64s (by omega)]
    have hs2 : ((w.take i).map (told A) ++ w.drop i).set ((i : Int)).toNat (⟨(tup (told A w[i])).1, (tup (told A w[i])).2.1, (tup (told A w[i])).2.2.1, (tup (told A w[i])).2.2.2⟩ : Rp) = (w.take (i + 1)).map (told A) ++ w.drop (i + 1) := hs
    rw [hs2]
    exact ih (i + 1) k (by omega) (by omega)
theorem settle_eq {A : List An} (hA : GAns A) (s : Int) (fr : List Int) (fb : Bool) {w : List Rp} (hw : w.length ≤ 1000) {k : Nat} (hk : 7000 ≤ k) :
    session_Settle.f k fr fb w s A = some (fr, fb, rest s (w.map (told A)), outs s (w.map (told A))) := by
  unfold session_Settle.f api_Reply_21.f
  rw [if_pos (by omega), Option.bind_some]
  have h := settle_l0 hA s fr fb w w hw w.length 0 k (by omega) (by omega)
  rw [List.drop_zero] at h
  exact h
theorem rgreat_l0 {l : List Rw} (hl : l.length ≤ 100000) (d : Nat) : ∀ (i k : Nat), i + d = l.length → d < k → ∃ r, ebbtideref08_Great.l0 k l (i : Int) = some r ∧ (r = false → ∀ x ∈ l.drop i, x.f1.size ≤ 300) := by
  induction d with
  | zero =>
    intro i k hi hk
    obtain ⟨k, rfl⟩ := succ_of hk
    simp only [ebbtideref08_Great.l0]
    rw [if_neg (by omega), List.drop_of_length_le (by omega)]
    exact ⟨_, rfl, fun _ x hx => absurd hx (by simp)⟩
  | succ d ih =>
    intro i k hi hk
    obtain ⟨k, rfl⟩ := succ_of hk
    have hlt : i < l.length := by omega
    simp only [ebbtideref08_Great.l0]
    rw [if_pos (by omega), if_pos (by omega), w64s (by omega), rdR hlt]
    obtain ⟨r, hr, h2⟩ := ih (i + 1) k (by omega) (by omega)
    rw [hr]
    by_cases h : (l[i].f1.size : Int) > 300
    · rw [if_pos h]
      exact ⟨_, rfl, fun e => by cases e⟩
    · rw [if_neg h]
      refine ⟨r, rfl, fun e x hx => ?_⟩
      rw [drop_at hlt, List.mem_cons] at hx
      rcases hx with rfl | hx
      · omega
      · exact h2 e x hx
theorem rgreat_eq (l : List Rw) {k : Nat} (hk : 110 ≤ k) : ebbtideref08_Great.f k l = some true ∨ (ebbtideref08_Great.f k l = some false ∧ l.length ≤ 100 ∧ ∀ x ∈ l, x.f1.size ≤ 300) := by
  unfold ebbtideref08_Great.f
  by_cases h : (l.length : Int) > 100
  · rw [if_pos h]
    exact .inl rfl
  · rw [if_neg h]
    obtain ⟨r, h1, h2⟩ := rgreat_l0 (l := l) (by omega) l.length 0 k (by omega) (by omega)
    cases r
    · exact .inr ⟨h1, by omega, h2 rfl⟩
    · exact .inl h1
theorem much_l0 {A : List An} (hl : A.length ≤ 100000) (d : Nat) : ∀ (i k : Nat), i + d = A.length → d + 120 < k → ∃ r, ebbtidelaw24_much.l0 k A (i : Int) = some r ∧ (r = false → ∀ x ∈ A.drop i, x.f2.length ≤ 100 ∧ ∀ y ∈ x.f2, y.f1.size ≤ 300) := by
  induction d with
  | zero =>
    intro i k hi hk
    obtain ⟨k, rfl⟩ := succ_of (show 0 < k by omega)
    simp only [ebbtidelaw24_much.l0]
    rw [if_neg (by omega), List.drop_of_length_le (by omega)]
    exact ⟨_, rfl, fun _ x hx => absurd hx (by simp)⟩
  | succ d ih =>
    intro i k hi hk
    obtain ⟨k, rfl⟩ := succ_of (show 0 < k by omega)
    have hlt : i < A.length := by omega
    simp only [ebbtidelaw24_much.l0]
    rw [if_pos (by omega), if_pos (by omega), w64s (by omega), rdA hlt]
    obtain ⟨r, hr, h2⟩ := ih (i + 1) k (by omega) (by omega)
    rw [hr]
    rcases rgreat_eq A[i].f2 (k := k) (by omega) with h | ⟨h, h3, h4⟩
    · rw [h, Option.bind_some, if_pos rfl]
      exact ⟨_, rfl, fun e => by cases e⟩
    · rw [h, Option.bind_some, if_neg (by decide)]
      refine ⟨r, rfl, fun e x hx => ?_⟩
      rw [drop_at hlt, List.mem_cons] at hx
      rcases hx with rfl | hx
      · exact ⟨h3, h4⟩
      · exact h2 e x hx
theorem much_eq (A : List An) (hq : ∀ x ∈ A, Q50 x) {k : Nat} (hk : 200 ≤ k) : ebbtidelaw24_much.f k A = some true ∨ (ebbtidelaw24_much.f k A = some false ∧ GAns A) := by
  unfold ebbtidelaw24_much.f
  by_cases h : (A.length : Int) > 20
  · rw [if_pos h]
    exact .inl rfl
  · rw [if_neg h]
    obtain ⟨r, h1, h2⟩ := much_l0 (A := A) (by omega) A.length 0 k (by omega) (by omega)
    cases r
    · refine .inr ⟨h1, by omega, fun a ha => ?_⟩
      have h3 := h2 rfl a ha
      have h4 := hq a ha
      refine ⟨wf64 h4.2.1, by omega, fun y hy => ?_⟩
      have h5 := h4.2.2.2 y hy
      have h6 := h3.2 y hy
      exact ⟨wf64 h5.1, by omega, wf64 h5.2.2.1⟩
    · exact .inl h1
theorem told_nil (x : Rp) : told [] x = x := by
  unfold told fnd
  split <;> rfl
theorem map_nil (w : List Rp) : w.map (told []) = w := by
  conv => rhs; rw [← List.map_id w]
  exact List.map_congr_left (fun x _ => told_nil x)
theorem gnil : GAns [] := ⟨by simp, fun a ha => absurd ha (by simp)⟩
theorem parts (s : Int) (w : List Rp) : (outs s w).length + (rest s w).length = w.length := by
  unfold outs rest
  rw [List.length_map, ← List.length_append, List.takeWhile_append_dropWhile]
end Go.Proofs.YtjheajgckpfieaaDoor.Pure
