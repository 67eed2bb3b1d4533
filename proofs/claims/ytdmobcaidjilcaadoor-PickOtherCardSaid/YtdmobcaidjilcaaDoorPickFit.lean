/- What tags fit what matches, in plain Lean; and that the program's functions and the references' compute just that. Conditions: the texts are short enough for the machine. -/
import Derived.Test.YtdmobcaidjilcaaDoorPickPlain
import Derived.Test.YtdmobcaidjilcaaDoorXx4
import Derived.Test.YtdmobcaidjilcaaDoorXx11
import Derived.Test.YtdmobcaidjilcaaDoorXx11
namespace Go.Proofs.YtdmobcaidjilcaaDoor.Pure
open Go.RowKit Go.Proofs.YtdmobcaidjilcaaDoor.X Go.Proofs.YtdmobcaidjilcaaDoorW.PrintWords Go.Proofs.YtdmobcaidjilcaaDoorW.PrintLast Go.Proofs.YtdmobcaidjilcaaDoorW.PrintMore Go.Proofs.YtdmobcaidjilcaaDoor.Aid Go.Proofs.YtdmobcaidjilcaaDoor.Bytes

/-- A tag's value, and whether it is there. -/
def findS : List Tg → ByteArray → ByteArray × Bool
  | [], _ => ((⟨#[]⟩ : ByteArray), false)
  | x :: l, n => if x.f0.toList = n.toList then (x.f1, true) else findS l n
theorem find_l0 {l : List Tg} (n : ByteArray) (hl : l.length ≤ 100000) (d : Nat) : ∀ (i k : Nat), i + d = l.length → d < k →
    tag_Find.l0 k n l (l.length : Int) (i : Int) = some (findS (l.drop i) n) ∧ ebbtideref03_Find.l0 k l n (i : Int) = some (findS (l.drop i) n) := by
  induction d with
  | zero =>
    intro i k hi hk
    obtain ⟨k, rfl⟩ := succ_of hk
    have c1 : ¬ (i : Int) < (l.length : Int) := by omega
    simp only [tag_Find.l0, ebbtideref03_Find.l0, if_neg c1]
    rw [List.drop_of_length_le (by omega)]
    exact ⟨rfl, rfl⟩
  | succ d ih =>
    intro i k hi hk
    obtain ⟨k, rfl⟩ := succ_of hk
    have hlt : i < l.length := by omega
    have c1 : (i : Int) < (l.length : Int) := by omega
    have c2 : 0 ≤ (i : Int) := by omega
    obtain ⟨h1, h2⟩ := ih (i + 1) k (by omega) (by omega)
    simp only [tag_Find.l0, ebbtideref03_Find.l0, if_pos c1, if_pos c2]
    rw [rdT hlt, w64s (by omega), h1, h2, drop_at hlt, findS]
    split
    · exact ⟨rfl, rfl⟩
    · exact ⟨rfl, rfl⟩
theorem find_eq {l : List Tg} (n : ByteArray) (hl : l.length ≤ 100000) {k : Nat} (hk : l.length < k) : tag_Find.f k l n = some (findS l n) ∧ ebbtideref03_Find.f k l n = some (findS l n) := by
  have h := find_l0 n hl l.length 0 k (by omega) hk
  rw [List.drop_zero] at h
  exact h
/-- Does a text begin with another? -/
def beginB (v p : ByteArray) : Bool := decide (p.size ≤ v.size) && ((v.extract 0 p.size).toList == p.toList)
theorem prefix_eq (v p : ByteArray) : strings_HasPrefix.f v p = some (beginB v p) := by
  unfold strings_HasPrefix.f stringslite_HasPrefix.f beginB
  by_cases h : p.size ≤ v.size
  · rw [if_pos (by omega), if_pos (by omega), if_pos (by omega), Int.toNat_natCast, decide_eq_true h, Bool.true_and]
    rfl
  · rw [if_neg (by omega), decide_eq_false h, Bool.false_and]
    rfl
/-- Do tags fit a match? -/
def fitS (l : List Tg) (x : Mt) : Bool :=
  if x.f0 = 1 then ((findS l x.f1).2 && ((findS l x.f1).1.toList == x.f2.toList)) else if x.f0 = 2 then !((findS l x.f1).2 && ((findS l x.f1).1.toList == x.f2.toList))
  else if x.f0 = 3 then ((findS l x.f1).2 && beginB (findS l x.f1).1 x.f2) else if x.f0 = 4 then (findS l x.f1).2 else false
theorem fit_eq {l : List Tg} (x : Mt) (hl : l.length ≤ 100000) {k : Nat} (hk : l.length < k) : pick_match_fits.f k x.f0 x.f1 x.f2 l = some (fitS l x) := by
  unfold pick_match_fits.f fitS
  rw [(find_eq x.f1 hl hk).1, Option.bind_some, prefix_eq]
  by_cases h1 : x.f0 = 1
  · rw [if_pos h1, if_pos h1]
    cases (findS l x.f1).2 <;> rfl
  · rw [if_neg h1, if_neg h1]
    by_cases h2 : x.f0 = 2
    · rw [if_pos h2, if_pos h2]
      cases (findS l x.f1).2 <;> rfl
    · rw [if_neg h2, if_neg h2]
      by_cases h3 : x.f0 = 3
      · rw [if_pos h3, if_pos h3]
        cases (findS l x.f1).2 <;> rfl
      · rw [if_neg h3, if_neg h3]
        split <;> rfl
theorem fits_eq {t : List Tg} (l : List Mt) (ht : t.length ≤ 100000) {k : Nat} (hk : t.length < k) : pick_Fits.f k t l = some (l.all (fitS t)) := by
  have h1 : (l.all fun x => (pick_match_fits.f k x.f0 x.f1 x.f2 t).isSome) = true := by
    rw [List.all_eq_true]
    intro x _
    rw [fit_eq x ht hk]
    rfl
  have h2 : (l.any fun x => !((pick_match_fits.f k x.f0 x.f1 x.f2 t).getD true)) = l.any fun x => !(fitS t x) := by
    congr 1
    funext x
    rw [fit_eq x ht hk]
    rfl
  unfold pick_Fits.f
  rw [if_pos h1, h2, List.not_any_eq_all_not]
  simp
/-- Some tags are too many, or they are few (or one is too long). -/
theorem tgreat_l0 {l : List Tg} (hl : l.length ≤ 20) (d : Nat) : ∀ (i k : Nat), i + d = l.length → d < k → ∃ r, ebbtideref03_Great.l0 k l (i : Int) = some r := by
  induction d with
  | zero =>
    intro i k hi hk
    obtain ⟨k, rfl⟩ := succ_of hk
    simp only [ebbtideref03_Great.l0]
    exact ⟨false, if_neg (by omega)⟩
  | succ d ih =>
    intro i k hi hk
    obtain ⟨k, rfl⟩ := succ_of hk
    simp only [ebbtideref03_Great.l0]
    rw [if_pos (by omega), if_pos (by omega), w64s (by omega)]
    split
    · exact ⟨_, rfl⟩
    · split
      · exact ⟨_, rfl⟩
      · exact ih (i + 1) k (by omega) (by omega)
theorem tgreat_eq (l : List Tg) {k : Nat} (hk : 30 ≤ k) : ebbtideref03_Great.f k l = some true ∨ (ebbtideref03_Great.f k l = some false ∧ l.length ≤ 20) := by
  unfold ebbtideref03_Great.f
  by_cases h : (l.length : Int) > 20
  · rw [if_pos h]
    exact .inl rfl
  · rw [if_neg h]
    obtain ⟨r, h1⟩ := tgreat_l0 (l := l) (by omega) l.length 0 k (by omega) (by omega)
    cases r
    · exact .inr ⟨h1, by omega⟩
    · exact .inl h1
end Go.Proofs.YtdmobcaidjilcaaDoor.Pure
