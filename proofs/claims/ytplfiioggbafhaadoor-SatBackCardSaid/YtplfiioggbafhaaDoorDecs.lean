/- Decimal numerals as lists of bytes: their value, their digits, and what the library's parse makes of them. No program in it. No condition of its own. -/
import Derived.Test.YtplfiioggbafhaaDoorBytes
import Derived.Lib.ItoaNum
import Derived.Lib.ParseIntB
namespace Go.Proofs.YtplfiioggbafhaaDoor.Decs
open Go.Proofs.YtplfiioggbafhaaDoor.Bytes

abbrev T := List UInt8
/-- A digit. -/
def Dig (c : UInt8) : Prop := 48 ≤ c.toNat ∧ c.toNat ≤ 57
instance (c : UInt8) : Decidable (Dig c) := inferInstanceAs (Decidable (_ ∧ _))
/-- The value, digits ahead of it being told by acc. -/
def valF (acc : Nat) : T → Nat
  | [] => acc
  | c :: r => valF (acc * 10 + (c.toNat - 48)) r
def val (l : T) : Nat := valF 0 l
theorem valF_snoc (c : UInt8) : ∀ (l : T) (acc : Nat), valF acc (l ++ [c]) = valF acc l * 10 + (c.toNat - 48)
  | [], _ => rfl
  | _ :: l, _ => valF_snoc c l _
theorem valF_ge : ∀ (l : T) (acc : Nat), acc ≤ valF acc l
  | [], _ => Nat.le_refl _
  | c :: l, acc => by
    have := valF_ge l (acc * 10 + (c.toNat - 48))
    unfold valF
    omega
theorem valF_mul : ∀ (l : T) (acc : Nat), l ≠ [] → acc * 10 ≤ valF acc l
  | c :: l, acc, _ => by
    have := valF_ge l (acc * 10 + (c.toNat - 48))
    unfold valF
    omega
theorem d_small {u : Nat} (h : u < 10) : Lib.decDigits u = [UInt8.ofNat (48 + u)] := by rw [Lib.decDigits, dif_pos h]
theorem d_big {u : Nat} (h : ¬ u < 10) : Lib.decDigits u = Lib.decDigits (u / 10) ++ [UInt8.ofNat (48 + u % 10)] := by rw [Lib.decDigits, dif_neg h]
theorem ofNat_dig {d : Nat} (h : d < 10) : (UInt8.ofNat (48 + d)).toNat = 48 + d := by
  rw [UInt8.toNat_ofNat']
  omega
theorem dec_facts : ∀ (n u : Nat), u < n → (∀ c ∈ Lib.decDigits u, Dig c) ∧ Lib.decDigits u ≠ [] ∧ ((Lib.decDigits u).head? = some 48 → u = 0) ∧ val (Lib.decDigits u) = u
  | 0, _, h => by omega
  | n + 1, u, h => by
    by_cases hu : u < 10
    · rw [d_small hu]
      have e := ofNat_dig hu
      refine ⟨fun c hc => ?_, by simp, fun hh => ?_, ?_⟩
      · rw [List.mem_singleton] at hc
        subst hc
        unfold Dig
        omega
      · simp only [List.head?_cons, Option.some.injEq] at hh
        have := congrArg UInt8.toNat hh
        rw [e] at this
        have h48 : (48 : UInt8).toNat = 48 := rfl
        omega
      · unfold val valF valF
        rw [e]
        omega
    · rw [d_big hu]
      obtain ⟨h1, h2, h3, h4⟩ := dec_facts n (u / 10) (by omega)
      have e := ofNat_dig (show u % 10 < 10 by omega)
      refine ⟨fun c hc => ?_, by simp, fun hh => ?_, ?_⟩
      · rw [List.mem_append, List.mem_singleton] at hc
        rcases hc with hc | hc
        · exact h1 c hc
        · subst hc
          unfold Dig
          omega
      · cases hd : Lib.decDigits (u / 10) with
        | nil => exact absurd hd h2
        | cons x r =>
          rw [hd] at hh h3
          have := h3 (by simpa using hh)
          omega
      · unfold val at h4 ⊢
        rw [valF_snoc, h4, e]
        omega
theorem dec_dig (u : Nat) : ∀ c ∈ Lib.decDigits u, Dig c := (dec_facts (u + 1) u (by omega)).1
theorem dec_ne (u : Nat) : Lib.decDigits u ≠ [] := (dec_facts (u + 1) u (by omega)).2.1
theorem dec_head (u : Nat) (h : (Lib.decDigits u).head? = some 48) : u = 0 := (dec_facts (u + 1) u (by omega)).2.2.1 h
theorem dec_val (u : Nat) : val (Lib.decDigits u) = u := (dec_facts (u + 1) u (by omega)).2.2.2
/-- A numeral: digits, at least one, no nought ahead. -/
def Num (l : T) : Prop := l ≠ [] ∧ (l.head? = some 48 → l = [48]) ∧ ∀ c ∈ l, Dig c
theorem num_dec (u : Nat) : Num (Lib.decDigits u) := ⟨dec_ne u, fun h => by rw [dec_head u h, d_small (by omega)]; rfl, dec_dig u⟩
theorem dig_back {c : UInt8} (h : Dig c) : UInt8.ofNat (48 + (c.toNat - 48)) = c := by
  apply UInt8.toNat_inj.1
  rw [ofNat_dig (by unfold Dig at h; omega)]
  unfold Dig at h
  omega
theorem val_pos : ∀ (l : T), Num l → l ≠ [48] → 1 ≤ val l
  | [], h, _ => absurd rfl h.1
  | c :: r, h, hn => by
    have hd := h.2.2 c List.mem_cons_self
    have hc : c ≠ 48 := fun e => hn (h.2.1 (by rw [e]; rfl))
    have h2 : c.toNat ≠ 48 := fun e => hc (UInt8.toNat_inj.1 e)
    have := valF_ge r (0 * 10 + (c.toNat - 48))
    unfold Dig at hd
    unfold val valF
    omega
theorem dec_of : ∀ (n : Nat) (l : T), l.length ≤ n → Num l → Lib.decDigits (val l) = l
  | 0, l, h, hn => absurd (List.eq_nil_of_length_eq_zero (by omega)) hn.1
  | n + 1, l, h, hn => by
    obtain ⟨r, c, rfl⟩ : ∃ r c, l = r ++ [c] := ⟨l.dropLast, l.getLast hn.1, (List.dropLast_concat_getLast hn.1).symm⟩
    have hd := hn.2.2 c (by simp)
    by_cases hr : r = []
    · subst hr
      have e : val ([] ++ [c]) = c.toNat - 48 := by unfold val; rw [List.nil_append]; unfold valF valF; omega
      rw [e, d_small (by unfold Dig at hd; omega), dig_back hd]
      rfl
    · have hnr : Num r := by
        refine ⟨hr, fun hh => ?_, fun x hx => hn.2.2 x (List.mem_append_left _ hx)⟩
        exfalso
        have h1 := hn.2.1 (by
          cases r with
          | nil => exact absurd rfl hr
          | cons x s => simpa using hh)
        have h2 := congrArg List.length h1
        rw [List.length_append, List.length_singleton, List.length_singleton] at h2
        exact hr (List.eq_nil_of_length_eq_zero (by omega))
      have ih := dec_of n r (by rw [List.length_append, List.length_singleton] at h; omega) hnr
      have hp : r ≠ [48] := fun e => by
        subst e
        have h1 := hn.2.1 rfl
        have h2 := congrArg List.length h1
        simp at h2
      have h1 := val_pos r hnr hp
      have e : val (r ++ [c]) = val r * 10 + (c.toNat - 48) := valF_snoc c r 0
      unfold Dig at hd
      rw [e, d_big (by omega), show (val r * 10 + (c.toNat - 48)) / 10 = val r by omega, show (val r * 10 + (c.toNat - 48)) % 10 = c.toNat - 48 by omega, ih, dig_back hd]
/-- What the library's parse makes of digits. -/
theorem parseM {M : Nat} (hM : M = 18446744073709551615) : ∀ (l : T) (acc : Nat), (∀ c ∈ l, Dig c) → acc ≤ M → Lib.parseUintM M acc l = if valF acc l ≤ M then .ok (valF acc l) else .range
  | [], acc, _, ha => by unfold Lib.parseUintM valF; rw [if_pos ha]
  | c :: r, acc, hd, ha => by
    have hc := hd c List.mem_cons_self
    have hr : ∀ x ∈ r, Dig x := fun x hx => hd x (List.mem_cons_of_mem _ hx)
    have hge := valF_ge r (acc * 10 + (c.toNat - 48))
    unfold Lib.parseUintM
    rw [if_pos (show 48 ≤ c.toNat ∧ c.toNat ≤ 57 from hc)]
    have ev : valF acc (c :: r) = valF (acc * 10 + (c.toNat - 48)) r := rfl
    rw [ev]
    by_cases h1 : 1844674407370955162 ≤ acc
    · rw [if_pos h1, if_neg (by omega)]
    · rw [if_neg h1]
      by_cases h2 : M < acc * 10 + (c.toNat - 48)
      · rw [if_pos h2, if_neg (by omega)]
      · rw [if_neg h2]
        exact parseM hM r _ hr (by omega)
end Go.Proofs.YtplfiioggbafhaaDoor.Decs
