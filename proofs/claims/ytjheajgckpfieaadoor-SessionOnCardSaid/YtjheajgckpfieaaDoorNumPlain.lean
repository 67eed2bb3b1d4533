/- Numbers' texts, in plain Lean; and that the program's functions and the references' compute just that. Conditions: numbers are of 64 bits, texts are short enough for the machine. -/
import Derived.Test.YtjheajgckpfieaaDoorJoinPlain
import Derived.Lib.ItoaNum
import Derived.Test.YtjheajgckpfieaaDoorXx2
import Derived.Test.YtjheajgckpfieaaDoorXx2
import Derived.Test.YtjheajgckpfieaaDoorXx9
import Derived.Test.YtjheajgckpfieaaDoorXx10
namespace Go.Proofs.YtjheajgckpfieaaDoor.Pure
open Go.RowKit Go.Proofs.YtjheajgckpfieaaDoor.X Go.Proofs.YtjheajgckpfieaaDoorW.PrintWords Go.Proofs.YtjheajgckpfieaaDoorW.PrintLast Go.Proofs.YtjheajgckpfieaaDoorW.PrintMore Go.Proofs.YtjheajgckpfieaaDoor.Aid Go.Proofs.YtjheajgckpfieaaDoor.Bytes

def I64 (a : Int) : Prop := -9223372036854775808 ≤ a ∧ a ≤ 9223372036854775807
theorem d_small {u : Nat} (h : u < 10) : Lib.decDigits u = [UInt8.ofNat (48 + u)] := by rw [Lib.decDigits, dif_pos h]
theorem d_big {u : Nat} (h : ¬ u < 10) : Lib.decDigits u = Lib.decDigits (u / 10) ++ [UInt8.ofNat (48 + u % 10)] := by rw [Lib.decDigits, dif_neg h]
theorem ofNat_dig {d : Nat} (h : d < 10) : (UInt8.ofNat (48 + d)).toNat = 48 + d := by
  rw [UInt8.toNat_ofNat']
  omega
theorem format_eq {n : Int} (h : I64 n) : sat_Number.f n = some (mk (Lib.itoa n)) := by
  unfold sat_Number.f strconv_FormatInt.f
  rw [if_pos ⟨rfl, h.1, h.2⟩, Option.bind_some]
  rfl
/-- The sign's byte, or none. -/
def sgn (n : Int) : T := if n < 0 then [45] else []
theorem itoa_sgn (n : Int) : Lib.itoa n = sgn n ++ Lib.decDigits n.natAbs := by
  unfold Lib.itoa sgn
  by_cases h : n < 0
  · rw [if_pos h, if_pos h]; rfl
  · rw [if_neg h, if_neg h, show n.toNat = n.natAbs by omega]; rfl
theorem one_dig {u : Nat} : strOfNums [((48 + u % 10 : Nat) : Int)] = mk [UInt8.ofNat (48 + u % 10)] := by
  have e := ofNat_dig (show u % 10 < 10 by omega)
  rw [← one_mk, e]
theorem tmod_neg (u : Nat) : Int.tmod (-(u : Int)) 10 = -((u % 10 : Nat) : Int) := by
  rw [Int.neg_tmod]
  rfl
theorem tdiv_neg (u : Nat) : Int.tdiv (-(u : Int)) 10 = -((u / 10 : Nat) : Int) := by
  rw [Int.neg_tdiv]
  rfl
theorem num_l0 (n : Int) (d : Nat) : ∀ (u k : Nat) (acc : T), u < 10 ^ (d + 1) → (u : Int) ≤ 9223372036854775808 → acc.length + d ≤ 1000 → d < k →
    ebbtideref01_Number.l0 k n (-(u : Int)) (mk acc) = some (mk (sgn n ++ (Lib.decDigits u ++ acc))) := by
  induction d with
  | zero =>
    intro u k acc hu hm ha hk
    obtain ⟨k, rfl⟩ := succ_of hk
    rw [ebbtideref01_Number.l0, tmod_neg, tdiv_neg]
    have hu' : u < 10 := by simpa using hu
    have e1 : (wrap64 (48 + (wrap64 (-(-((u % 10 : Nat) : Int)))))) % 256 = ((48 + u % 10 : Nat) : Int) := by
      rw [w64 (a := -(-((u % 10 : Nat) : Int))) (by omega) (by omega), w64 (by omega) (by omega)]
      omega
    have e2 : wrap64 (-((u / 10 : Nat) : Int)) = 0 := by rw [w64 (by omega) (by omega)]; omega
    rw [e1, e2, Option.bind_some, one_dig, mk_append, mk_size, mk_size, if_pos (by simp only [List.length_singleton]; omega), if_pos rfl, d_small hu', show u % 10 = u by omega]
    unfold sgn
    by_cases hn : n < 0
    · rw [if_pos hn, if_pos hn, mk_size, if_pos (by simp only [List.length_append, List.length_singleton]; omega), show (⟨#[45]⟩ : ByteArray) = mk [45] from rfl, mk_append]
    · rw [if_neg hn, if_neg hn]
      rfl
  | succ d ih =>
    intro u k acc hu hm ha hk
    by_cases hu' : u < 10
    · obtain ⟨k, rfl⟩ := succ_of hk
      rw [ebbtideref01_Number.l0, tmod_neg, tdiv_neg]
      have e1 : (wrap64 (48 + (wrap64 (-(-((u % 10 : Nat) : Int)))))) % 256 = ((48 + u % 10 : Nat) : Int) := by
        rw [w64 (a := -(-((u % 10 : Nat) : Int))) (by omega) (by omega), w64 (by omega) (by omega)]
        omega
      have e2 : wrap64 (-((u / 10 : Nat) : Int)) = 0 := by rw [w64 (by omega) (by omega)]; omega
      rw [e1, e2, Option.bind_some, one_dig, mk_append, mk_size, mk_size, if_pos (by simp only [List.length_singleton]; omega), if_pos rfl, d_small hu', show u % 10 = u by omega]
      unfold sgn
      by_cases hn : n < 0
      · rw [if_pos hn, if_pos hn, mk_size, if_pos (by simp only [List.length_append, List.length_singleton]; omega), show (⟨#[45]⟩ : ByteArray) = mk [45] from rfl, mk_append]
      · rw [if_neg hn, if_neg hn]
        rfl
    · obtain ⟨k, rfl⟩ := succ_of hk
      rw [ebbtideref01_Number.l0, tmod_neg, tdiv_neg]
      have e1 : (wrap64 (48 + (wrap64 (-(-((u % 10 : Nat) : Int)))))) % 256 = ((48 + u % 10 : Nat) : Int) := by
        rw [w64 (a := -(-((u % 10 : Nat) : Int))) (by omega) (by omega), w64 (by omega) (by omega)]
        omega
      have e2 : wrap64 (-((u / 10 : Nat) : Int)) = -((u / 10 : Nat) : Int) := w64 (by omega) (by omega)
      rw [e1, e2, Option.bind_some, one_dig, mk_append, mk_size, mk_size, if_pos (by simp only [List.length_singleton]; omega), if_neg (by omega), d_big hu']
      rw [ih (u / 10) k _ (by rw [Nat.pow_succ] at hu; omega) (by omega) (by simp only [List.length_append, List.length_singleton]; omega) (by omega), List.append_assoc]
theorem number_eq {n : Int} (h : I64 n) {k : Nat} (hk : 40 ≤ k) : ebbtideref01_Number.f k n = some (mk (Lib.itoa n)) := by
  unfold I64 at h
  obtain ⟨k, rfl⟩ := succ_of (show 0 < k by omega)
  have h20 : n.natAbs < 10 ^ (20 + 1) := by
    have : (10 : Nat) ^ 21 = 1000000000000000000000 := by decide
    omega
  have e := num_l0 n 20 n.natAbs k [] h20 (by omega) (by simp) (by omega)
  rw [List.append_nil, ← itoa_sgn] at e
  have e3 : (⟨#[]⟩ : ByteArray) = mk [] := rfl
  unfold ebbtideref01_Number.f
  by_cases hn : n > 0
  · rw [if_pos hn, ebbtideref01_Number.j0, w64 (by omega) (by omega), e3, show -n = -(n.natAbs : Int) by omega]
    exact e
  · rw [if_neg hn, ebbtideref01_Number.j0, e3]
    conv => lhs; arg 3; rw [show n = -(n.natAbs : Int) by omega]
    exact e
/-- A sum's text. -/
def txt (n : Int) (o : Bool) : T := if o = true then Lib.itoa n ++ [33] else Lib.itoa n
theorem itoa_len {n : Int} (h : I64 n) : (Lib.itoa n).length ≤ 100 := by
  unfold I64 at h
  have h20 : n.natAbs < 10 ^ (20 + 1) := by
    have : (10 : Nat) ^ 21 = 1000000000000000000000 := by decide
    omega
  have g : ∀ (d u : Nat), u < 10 ^ (d + 1) → (Lib.decDigits u).length ≤ d + 1 := by
    intro d
    induction d with
    | zero => intro u hu; rw [d_small (by simpa using hu)]; simp
    | succ d ih =>
      intro u hu
      by_cases h : u < 10
      · rw [d_small h]; simp
      · rw [d_big h, List.length_append, List.length_singleton]
        have := ih (u / 10) (by rw [Nat.pow_succ] at hu; omega)
        omega
  have := g 20 _ h20
  rw [itoa_sgn, List.length_append]
  unfold sgn
  split <;> simp <;> omega
theorem text_eq {n : Int} (h : I64 n) (o : Bool) {k : Nat} (hk : 40 ≤ k) : sat_Text.f n o = some (mk (txt n o)) ∧ ebbtideref01_Text.f k n o = some (mk (txt n o)) := by
  have hl := itoa_len h
  unfold sat_Text.f ebbtideref01_Text.f txt
  rw [format_eq h, number_eq h hk]
  cases o
  · exact ⟨rfl, rfl⟩
  · simp only [if_true]
    rw [Option.bind_some, mk_size, if_pos (by omega), show (⟨#[33]⟩ : ByteArray) = mk [33] from rfl, mk_append]
    exact ⟨rfl, rfl⟩
end Go.Proofs.YtjheajgckpfieaaDoor.Pure
