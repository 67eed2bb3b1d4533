/- What sums are, in plain Lean: added, told as a text, read from one; and that the program's functions and the references' compute just that. Conditions: numbers are of 64 bits, texts are short enough for the machine. -/
import Derived.Test.YtplfiioggbafhaaDoorDecs
import Derived.Test.YtplfiioggbafhaaDoorXx
namespace Go.Proofs.YtplfiioggbafhaaDoor.Pure
open Go.RowKit Go.Proofs.YtplfiioggbafhaaDoor.X Go.Proofs.YtplfiioggbafhaaDoorW.PrintWords Go.Proofs.YtplfiioggbafhaaDoorW.PrintLast Go.Proofs.YtplfiioggbafhaaDoorW.PrintMore Go.Proofs.YtplfiioggbafhaaDoor.Aid Go.Proofs.YtplfiioggbafhaaDoor.Bytes Go.Proofs.YtplfiioggbafhaaDoor.Decs

abbrev Sm := S23
theorem rdS {l : List Sm} {i : Nat} (h : i < l.length) : rd_T23 l (i : Int) = l[i] := getD_at h _
def I64 (a : Int) : Prop := -9223372036854775808 ≤ a ∧ a ≤ 9223372036854775807
/-- Two sums. -/
def addS (a : Int) (o : Bool) (b : Int) (p : Bool) : Int × Bool :=
  if o = true then (a, o) else if p = true then (b, p) else if 9223372036854775807 < a + b then (9223372036854775807, true) else if a + b < -9223372036854775808 then (-9223372036854775808, true) else (a + b, false)
theorem addS_in {a b : Int} {o p : Bool} (ha : I64 a) (hb : I64 b) : I64 (addS a o b p).1 := by
  unfold addS I64 at *
  split
  · exact ha
  · split
    · exact hb
    · split
      · exact ⟨by decide, by decide⟩
      · split
        · exact ⟨by decide, by decide⟩
        · exact ⟨by show _ ≤ a + b; omega, by show a + b ≤ _; omega⟩
theorem wrap_up {x : Int} (h : 9223372036854775807 < x) (h2 : x ≤ 18446744073709551614) : wrap64 x = x - 18446744073709551616 := by unfold wrap64; omega
theorem wrap_dn {x : Int} (h : x < -9223372036854775808) (h2 : -18446744073709551616 ≤ x) : wrap64 x = x + 18446744073709551616 := by unfold wrap64; omega
theorem add_eq {a b : Int} {o p : Bool} (ha : I64 a) (hb : I64 b) (k : Nat) : sat_Add.f (k + 1) a o b p = some (addS a o b p) := by
  unfold I64 at ha hb
  unfold sat_Add.f addS
  cases o
  · cases p
    · simp only [Bool.false_eq_true, if_false, sat_Add.j0, sat_Of.f, Option.bind_some]
      by_cases h1 : 9223372036854775807 < a + b
      · rw [wrap_up h1 (by omega), if_pos (by omega), if_pos (by omega), if_pos h1, decide_eq_true (show a + b - 18446744073709551616 < 0 by omega)]
        simp
      · by_cases h2 : a + b < -9223372036854775808
        · rw [wrap_dn h2 (by omega), if_neg (by omega), if_neg h1, if_pos h2, if_pos (show a < 0 by omega), if_pos (show b < 0 by omega), if_pos (show a + b + 18446744073709551616 ≥ 0 by omega)]
        · rw [w64 (by omega) (by omega), if_neg h1, if_neg h2]
          by_cases h3 : a > 0
          · rw [if_pos h3]
            by_cases h4 : b > 0
            · rw [if_pos h4, decide_eq_false (show ¬ a + b < 0 by omega), if_neg (by decide), if_neg (by omega)]
            · rw [if_neg h4, if_neg (by omega)]
          · rw [if_neg h3]
            by_cases h5 : a < 0
            · rw [if_pos h5]
              by_cases h6 : b < 0
              · rw [if_pos h6, if_neg (by omega)]
              · rw [if_neg h6]
            · rw [if_neg h5]
    · rfl
  · rfl
theorem radd_eq {a b : Int} {o p : Bool} (ha : I64 a) (hb : I64 b) (k : Nat) : ebbtideref01_Add.f (k + 1) a o b p = some (addS a o b p) := by
  unfold I64 at ha hb
  unfold ebbtideref01_Add.f addS
  cases o
  · cases p
    · simp only [Bool.false_eq_true, if_false, ebbtideref01_Add.j0]
      by_cases h3 : a > 0
      · rw [if_pos h3, w64 (a := 9223372036854775807 - a) (by omega) (by omega)]
        by_cases h1 : 9223372036854775807 < a + b
        · rw [if_pos h1, decide_eq_true (show b > 9223372036854775807 - a by omega), if_pos rfl]
        · rw [if_neg h1, decide_eq_false (show ¬ b > 9223372036854775807 - a by omega), if_neg (by decide), if_neg (by omega), if_neg (by omega), w64 (by omega) (by omega)]
      · rw [if_neg h3, if_neg (show ¬ 9223372036854775807 < a + b by omega)]
        by_cases h5 : a < 0
        · rw [if_pos h5, w64 (a := -9223372036854775808 - a) (by omega) (by omega)]
          by_cases h2 : a + b < -9223372036854775808
          · rw [if_pos h2, if_pos (by omega)]
          · rw [if_neg h2, if_neg (by omega), w64 (by omega) (by omega)]
        · rw [if_neg h5, if_neg (by omega), w64 (by omega) (by omega)]
    · rfl
  · rfl
theorem qs {x : Sm} (h : Q23 x) : I64 x.f0 := wf64 h.1
/-- Some sums, behind one. -/
def totS : List Sm → Int × Bool → Int × Bool
  | [], s => s
  | x :: l, s => totS l (addS s.1 s.2 x.f0 x.f1)
theorem tot_l0 {l : List Sm} (hl : l.length ≤ 1000000) (hq : ∀ x ∈ l, I64 x.f0) (d : Nat) : ∀ (i k : Nat) (s : Int × Bool), i + d = l.length → d + 1 < k → I64 s.1 →
    sat_Total.l0 k l (l.length : Int) (i : Int) s.1 s.2 = some (totS (l.drop i) s) ∧ ebbtideref01_Total.l0 k l (i : Int) s.1 s.2 = some (totS (l.drop i) s) := by
  induction d with
  | zero =>
    intro i k s hi hk hs
    obtain ⟨k, rfl⟩ := succ_of hk
    simp only [sat_Total.l0, ebbtideref01_Total.l0]
    rw [if_neg (by omega), if_neg (by omega), List.drop_of_length_le (by omega)]
    exact ⟨rfl, rfl⟩
  | succ d ih =>
    intro i k s hi hk hs
    obtain ⟨k, rfl⟩ := succ_of hk
    obtain ⟨k, rfl⟩ := succ_of (show d < k by omega)
    have hlt : i < l.length := by omega
    have hx : I64 l[i].f0 := hq _ (List.getElem_mem hlt)
    have c1 : (i : Int) < (l.length : Int) := by omega
    have c2 : 0 ≤ (i : Int) := by omega
    obtain ⟨h1, h2⟩ := ih (i + 1) (k + 1) (addS s.1 s.2 l[i].f0 l[i].f1) (by omega) (by omega) (addS_in hs hx)
    rw [drop_at hlt]
    unfold sat_Total.l0 ebbtideref01_Total.l0
    simp only [if_pos c1, if_pos c2]
    rw [rdS hlt, w64s (by omega), add_eq hs hx, radd_eq hs hx]
    simp only [Option.bind_some]
    exact ⟨h1, h2⟩
theorem tot_eq {l : List Sm} (hl : l.length ≤ 1000000) (hq : ∀ x ∈ l, I64 x.f0) {k : Nat} (hk : l.length + 1 < k) : sat_Total.f k l = some (totS l (0, false)) ∧ ebbtideref01_Total.f k l = some (totS l (0, false)) := by
  have h := tot_l0 hl hq l.length 0 k (0, false) (by omega) hk ⟨by decide, by decide⟩
  rw [List.drop_zero] at h
  exact h

theorem format_eq {n : Int} (h : I64 n) : sat_Number.f n = some (mk (Lib.itoa n)) := by
  unfold sat_Number.f strconv_FormatInt.f
  rw [if_pos ⟨rfl, h.1, h.2⟩, Option.bind_some]
  rfl
/-- The sign's byte, or none. -/
def sgn (n : Int) : T := if n < 0 then [45] else []
theorem itoa_sgn (n : Int) : Lib.itoa n = sgn n ++ Lib.decDigits n.natAbs := by
  unfold Lib.itoa sgn
  by_cases h : n < 0
  · rw [if_pos h, if_pos h]; rfl
  · rw [if_neg h, if_neg h, show n.toNat = n.natAbs by omega]; rfl
theorem one_dig {u : Nat} : strOfNums [((48 + u % 10 : Nat) : Int)] = mk [UInt8.ofNat (48 + u % 10)] := by
  have e := ofNat_dig (show u % 10 < 10 by omega)
  rw [← one_mk, e]
theorem tmod_neg (u : Nat) : Int.tmod (-(u : Int)) 10 = -((u % 10 : Nat) : Int) := by
  rw [Int.neg_tmod]
  rfl
theorem tdiv_neg (u : Nat) : Int.tdiv (-(u : Int)) 10 = -((u / 10 : Nat) : Int) := by
  rw [Int.neg_tdiv]
  rfl
theorem num_l0 (n : Int) (d : Nat) : ∀ (u k : Nat) (acc : T), u < 10 ^ (d + 1) → (u : Int) ≤ 9223372036854775808 → acc.length + d ≤ 1000 → d < k →
    ebbtideref01_Number.l0 k n (-(u : Int)) (mk acc) = some (mk (sgn n ++ (Lib.decDigits u ++ acc))) := by
  induction d with
  | zero =>
    intro u k acc hu hm ha hk
    obtain ⟨k, rfl⟩ := succ_of hk
    rw [ebbtideref01_Number.l0, tmod_neg, tdiv_neg]
    have hu' : u < 10 := by simpa using hu
    have e1 : (wrap64 (48 + (wrap64 (-(-((u % 10 : Nat) : Int)))))) % 256 = ((48 + u % 10 : Nat) : Int) := by
      rw [w64 (a := -(-((u % 10 : Nat) : Int))) (by omega) (by omega), w64 (by omega) (by omega)]
      omega
    have e2 : wrap64 (-((u / 10 : Nat) : Int)) = 0 := by rw [w64 (by omega) (by omega)]; omega
    rw [e1, e2, Option.bind_some, one_dig, mk_append, mk_size, mk_size, if_pos (by simp only [List.length_singleton]; omega), if_pos rfl, d_small hu', show u % 10 = u by omega]
    unfold sgn
    by_cases hn : n < 0
    · rw [if_pos hn, if_pos hn, mk_size, if_pos (by simp only [List.length_append, List.length_singleton]; omega), show (⟨#[45]⟩ : ByteArray) = mk [45] from rfl, mk_append]
    · rw [if_neg hn, if_neg hn]
      rfl
  | succ d ih =>
    intro u k acc hu hm ha hk
    by_cases hu' : u < 10
    · obtain ⟨k, rfl⟩ := succ_of hk
      rw [ebbtideref01_Number.l0, tmod_neg, tdiv_neg]
      have e1 : (wrap64 (48 + (wrap64 (-(-((u % 10 : Nat) : Int)))))) % 256 = ((48 + u % 10 : Nat) : Int) := by
        rw [w64 (a := -(-((u % 10 : Nat) : Int))) (by omega) (by omega), w64 (by omega) (by omega)]
        omega
      have e2 : wrap64 (-((u / 10 : Nat) : Int)) = 0 := by rw [w64 (by omega) (by omega)]; omega
      rw [e1, e2, Option.bind_some, one_dig, mk_append, mk_size, mk_size, if_pos (by simp only [List.length_singleton]; omega), if_pos rfl, d_small hu', show u % 10 = u by omega]
      unfold sgn
      by_cases hn : n < 0
      · rw [if_pos hn, if_pos hn, mk_size, if_pos (by simp only [List.length_append, List.length_singleton]; omega), show (⟨#[45]⟩ : ByteArray) = mk [45] from rfl, mk_append]
      · rw [if_neg hn, if_neg hn]
        rfl
    · obtain ⟨k, rfl⟩ := succ_of hk
      rw [ebbtideref01_Number.l0, tmod_neg, tdiv_neg]
      have e1 : (wrap64 (48 + (wrap64 (-(-((u % 10 : Nat) : Int)))))) % 256 = ((48 + u % 10 : Nat) : Int) := by
        rw [w64 (a := -(-((u % 10 : Nat) : Int))) (by omega) (by omega), w64 (by omega) (by omega)]
        omega
      have e2 : wrap64 (-((u / 10 : Nat) : Int)) = -((u / 10 : Nat) : Int) := w64 (by omega) (by omega)
      rw [e1, e2, Option.bind_some, one_dig, mk_append, mk_size, mk_size, if_pos (by simp only [List.length_singleton]; omega), if_neg (by omega), d_big hu']
      rw [ih (u / 10) k _ (by rw [Nat.pow_succ] at hu; omega) (by omega) (by simp only [List.length_append, List.length_singleton]; omega) (by omega), List.append_assoc]
theorem number_eq {n : Int} (h : I64 n) {k : Nat} (hk : 40 ≤ k) : ebbtideref01_Number.f k n = some (mk (Lib.itoa n)) := by
  unfold I64 at h
  obtain ⟨k, rfl⟩ := succ_of (show 0 < k by omega)
  have h20 : n.natAbs < 10 ^ (20 + 1) := by
    have : (10 : Nat) ^ 21 = 1000000000000000000000 := by decide
    omega
  have e := num_l0 n 20 n.natAbs k [] h20 (by omega) (by simp) (by omega)
  rw [List.append_nil, ← itoa_sgn] at e
  have e3 : (⟨#[]⟩ : ByteArray) = mk [] := rfl
  unfold ebbtideref01_Number.f
  by_cases hn : n > 0
  · rw [if_pos hn, ebbtideref01_Number.j0, w64 (by omega) (by omega), e3, show -n = -(n.natAbs : Int) by omega]
    exact e
  · rw [if_neg hn, ebbtideref01_Number.j0, e3]
    conv => lhs; arg 3; rw [show n = -(n.natAbs : Int) by omega]
    exact e
/-- A sum's text. -/
def txt (n : Int) (o : Bool) : T := if o = true then Lib.itoa n ++ [33] else Lib.itoa n
theorem itoa_len {n : Int} (h : I64 n) : (Lib.itoa n).length ≤ 100 := by
  unfold I64 at h
  have h20 : n.natAbs < 10 ^ (20 + 1) := by
    have : (10 : Nat) ^ 21 = 1000000000000000000000 := by decide
    omega
  have g : ∀ (d u : Nat), u < 10 ^ (d + 1) → (Lib.decDigits u).length ≤ d + 1 := by
    intro d
    induction d with
    | zero => intro u hu; rw [d_small (by simpa using hu)]; simp
    | succ d ih =>
      intro u hu
      by_cases h : u < 10
      · rw [d_small h]; simp
      · rw [d_big h, List.length_append, List.length_singleton]
        have := ih (u / 10) (by rw [Nat.pow_succ] at hu; omega)
        omega
  have := g 20 _ h20
  rw [itoa_sgn, List.length_append]
  unfold sgn
  split <;> simp <;> omega
theorem text_eq {n : Int} (h : I64 n) (o : Bool) {k : Nat} (hk : 40 ≤ k) : sat_Text.f n o = some (mk (txt n o)) ∧ ebbtideref01_Text.f k n o = some (mk (txt n o)) := by
  have hl := itoa_len h
  unfold sat_Text.f ebbtideref01_Text.f txt
  rw [format_eq h, number_eq h hk]
  cases o
  · exact ⟨rfl, rfl⟩
  · simp only [if_true]
    rw [Option.bind_some, mk_size, if_pos (by omega), show (⟨#[33]⟩ : ByteArray) = mk [33] from rfl, mk_append]
    exact ⟨rfl, rfl⟩
theorem alive_eq (k : Nat) (hk : 14 ≤ k) : ebbtidelaw01_alive.f k = some true :=
  at_rounds (g := fun k => ebbtidelaw01_alive.f k) ebbtidelaw01_alive.mono hk (by decide +kernel)
end Go.Proofs.YtplfiioggbafhaaDoor.Pure
