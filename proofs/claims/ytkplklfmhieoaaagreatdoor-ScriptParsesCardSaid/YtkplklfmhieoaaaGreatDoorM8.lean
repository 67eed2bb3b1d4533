/- Plain facts on what the printed functions compute, joined; each says its conditions. -/
import Derived.Test.YtkplklfmhieoaaaGreatDoorM1
import Derived.Test.YtkplklfmhieoaaaGreatDoorM4
import Derived.Lib.ItoaNum
import Derived.Lib.ParseIntB
import Derived.Test.YtkplklfmhieoaaaGreatDoorM5
import Derived.Test.YtkplklfmhieoaaaGreatDoorM6
import Derived.Lib.IndexMore
import Derived.Test.YtkplklfmhieoaaaGreatDoorM7
section
namespace Go.Proofs.YtkplklfmhieoaaaGreatDoor.Pure
open Go.RowKit Go.Proofs.YtkplklfmhieoaaaGreatDoor.X Go.Proofs.YtkplklfmhieoaaaGreatDoorW.PrintWords Go.Proofs.YtkplklfmhieoaaaGreatDoorW.PrintLast Go.Proofs.YtkplklfmhieoaaaGreatDoorW.PrintMore Go.Proofs.YtkplklfmhieoaaaGreatDoor.Aid Go.Proofs.YtkplklfmhieoaaaGreatDoor.Bytes
set_option linter.unusedVariables false
abbrev T := List UInt8
def bl (s : ByteArray) : T := s.data.toList
end Go.Proofs.YtkplklfmhieoaaaGreatDoor.Pure
end
section
namespace Go.Proofs.YtkplklfmhieoaaaGreatDoor.Pure
open Go.RowKit Go.Proofs.YtkplklfmhieoaaaGreatDoor.X Go.Proofs.YtkplklfmhieoaaaGreatDoorW.PrintWords Go.Proofs.YtkplklfmhieoaaaGreatDoorW.PrintLast Go.Proofs.YtkplklfmhieoaaaGreatDoorW.PrintMore Go.Proofs.YtkplklfmhieoaaaGreatDoor.Aid Go.Proofs.YtkplklfmhieoaaaGreatDoor.Bytes
set_option linter.unusedVariables false
end Go.Proofs.YtkplklfmhieoaaaGreatDoor.Pure
end
section
namespace Go.Proofs.YtkplklfmhieoaaaGreatDoor.Pure
open Go.RowKit Go.Proofs.YtkplklfmhieoaaaGreatDoor.X Go.Proofs.YtkplklfmhieoaaaGreatDoorW.PrintWords Go.Proofs.YtkplklfmhieoaaaGreatDoorW.PrintLast Go.Proofs.YtkplklfmhieoaaaGreatDoorW.PrintMore Go.Proofs.YtkplklfmhieoaaaGreatDoor.Aid Go.Proofs.YtkplklfmhieoaaaGreatDoor.Bytes
set_option linter.unusedVariables false
def glue (p : T) : List T → List T
 | [] => [p]
 | h :: t => (p ++ h) :: t
def spl (c : UInt8) : T → List T
 | [] => [[]]
 | x :: l => if x = c then [] :: spl c l else glue [x] (spl c l)
theorem spl_cons (c x : UInt8) (l : T) : spl c (x :: l) = if x = c then [] :: spl c l else glue [x] (spl c l) := rfl
theorem spl_ne (c : UInt8) (l : T) : spl c l ≠ [] := by
 cases l with
 | nil => simp [spl]
 | cons x l =>
  rw [spl_cons]
  split
  ·
   simp
  ·
   unfold glue
   split <;> simp
theorem glue_nil {L : List T} (h : L ≠ []) : glue [] L = L := by
 cases L with
 | nil => exact absurd rfl h
 | cons x L => rfl
theorem glue_glue (p q : T) (L : List T) : glue p (glue q L) = glue (p ++ q) L := by
 cases L with
 | nil => rfl
 | cons x L => simp [glue]
theorem idx_spl (c : UInt8) (l : T) : (Lib.indexByte l c = -1 ∧ spl c l = [l]) ∨ ∃ i : Nat, Lib.indexByte l c = (i : Int) ∧ i < l.length ∧ spl c l = l.take i :: spl c (l.drop (i + 1)) := by
 induction l with
 | nil => exact .inl ⟨rfl, rfl⟩
 | cons x l ih =>
  unfold Lib.indexByte
  rw [spl_cons]
  by_cases h : x = c
  ·
   rw [if_pos (beq_iff_eq.mpr h), if_pos h]
   exact .inr ⟨0, rfl, by simp, by simp⟩
  ·
   rw [if_neg (by simpa using h), if_neg h]
   rcases ih with ⟨h1, h2⟩ | ⟨i, h1, h2, h3⟩
   ·
    rw [h1, h2]
    exact .inl ⟨rfl, rfl⟩
   ·
    rw [h1, h3, if_neg (by simp only [beq_iff_eq]; omega)]
    exact .inr ⟨i + 1, by omega, by simp only [List.length_cons]; omega, by simp [glue]⟩
theorem byte_all {p : UInt8 → Prop} (h : ∀ n, n < 256 → p (UInt8.ofNat n)) (b : UInt8) : p b := by
 have := h b.toNat b.toNat_lt
 rwa [UInt8.ofNat_toNat] at this
theorem dropW_nil (p : UInt8 → Bool) (l : T) : l.dropWhile p = [] ↔ l.all p = true := by
 induction l with
 | nil => simp
 | cons x l ih =>
  rw [List.dropWhile_cons, List.all_cons]
  by_cases h : p x = true
  ·
   rw [if_pos h, h, Bool.true_and]
   exact ih
  ·
   rw [if_neg h, Bool.eq_false_iff.mpr h, Bool.false_and]
   simp
theorem trim_nil (l cs : T) : Lib.trimS l cs = [] ↔ l.all (fun b => cs.contains b) = true := by
 unfold Lib.trimS Lib.trimLeftS Lib.trimRightS
 rw [dropW_nil]
 by_cases h : (l.reverse.dropWhile fun b => cs.contains b) = []
 ·
  have h2 := (dropW_nil _ _).mp h
  rw [List.all_reverse] at h2
  rw [h, h2]
  simp
 ·
  have h2 : ¬ l.all (fun b => cs.contains b) = true := fun e => h ((dropW_nil _ _).mpr (by rw [List.all_reverse]; exact e))
  rw [List.all_reverse]
  constructor
  ·
   intro e
   exfalso
   obtain ⟨x, r, hr⟩ := List.exists_cons_of_ne_nil h
   have hx : ¬ cs.contains x = true := by
    have := List.head_dropWhile_not (fun b => cs.contains b) h
    simp only [hr, List.head_cons] at this
    simpa using this
   rw [hr, List.all_cons] at e
   exact hx (by simpa using (Bool.and_eq_true_iff.mp e).1)
  ·
   intro e
   exact absurd e h2
theorem spl_no (c : UInt8) (x : T) (h : c ∉ x) : spl c x = [x] := by
 induction x with
 | nil => rfl
 | cons y x ih =>
  rw [List.mem_cons, not_or] at h
  rw [spl_cons, if_neg (fun e => h.1 e.symm), ih h.2]
  rfl
theorem spl_app (c : UInt8) (x y : T) (h : c ∉ x) : spl c (x ++ c :: y) = x :: spl c y := by
 induction x with
 | nil => rw [List.nil_append, spl_cons, if_pos rfl]
 | cons z x ih =>
  rw [List.mem_cons, not_or] at h
  rw [List.cons_append, spl_cons, if_neg (fun e => h.1 e.symm), ih h.2]
  rfl
theorem spl_short (c : UInt8) : ∀ (l : T), ∀ p ∈ spl c l, p.length ≤ l.length
 | [], p, hp => by
  rw [show spl c [] = [[]] from rfl, List.mem_singleton] at hp
  rw [hp]
  exact Nat.le_refl _
 | x :: l, p, hp => by
  rw [spl_cons] at hp
  by_cases h : x = c
  ·
   rw [if_pos h] at hp
   rcases List.mem_cons.mp hp with rfl | hp
   ·
    exact Nat.zero_le _
   ·
    have := spl_short c l p hp
    rw [List.length_cons]
    omega
  ·
   rw [if_neg h] at hp
   have hne := spl_ne c l
   cases hq : spl c l with
   | nil => exact absurd hq hne
   | cons y L =>
    rw [hq] at hp
    unfold glue at hp
    rcases List.mem_cons.mp hp with rfl | hp
    ·
     have := spl_short c l y (by rw [hq]; exact List.mem_cons_self)
     simp only [List.length_append, List.length_cons, List.length_nil]
     omega
    ·
     have := spl_short c l p (by rw [hq]; exact List.mem_cons_of_mem _ hp)
     rw [List.length_cons]
     omega
end Go.Proofs.YtkplklfmhieoaaaGreatDoor.Pure
end
section
namespace Go.Proofs.YtkplklfmhieoaaaGreatDoor.Decs
open Go.Proofs.YtkplklfmhieoaaaGreatDoor.Bytes
abbrev T := List UInt8
def Dig (c : UInt8) : Prop := 48 ≤ c.toNat ∧ c.toNat ≤ 57
instance (c : UInt8) : Decidable (Dig c) := inferInstanceAs (Decidable (_ ∧ _))
def valF (acc : Nat) : T → Nat
 | [] => acc
 | c :: r => valF (acc * 10 + (c.toNat - 48)) r
def val (l : T) : Nat := valF 0 l
theorem valF_ge : ∀ (l : T) (acc : Nat), acc ≤ valF acc l
 | [], _ => Nat.le_refl _
 | c :: l, acc => by
  have := valF_ge l (acc * 10 + (c.toNat - 48))
  unfold valF
  omega
def Num (l : T) : Prop := l ≠ [] ∧ (l.head? = some 48 → l = [48]) ∧ ∀ c ∈ l, Dig c
theorem parseM {M : Nat} (hM : M = 18446744073709551615) : ∀ (l : T) (acc : Nat), (∀ c ∈ l, Dig c) → acc ≤ M → Lib.parseUintM M acc l = if valF acc l ≤ M then .ok (valF acc l) else .range
 | [], acc, _, ha => by unfold Lib.parseUintM valF; rw [if_pos ha]
 | c :: r, acc, hd, ha => by
  have hc := hd c List.mem_cons_self
  have hr : ∀ x ∈ r, Dig x := fun x hx => hd x (List.mem_cons_of_mem _ hx)
  have hge := valF_ge r (acc * 10 + (c.toNat - 48))
  unfold Lib.parseUintM
  rw [if_pos (show 48 ≤ c.toNat ∧ c.toNat ≤ 57 from hc)]
  have ev : valF acc (c :: r) = valF (acc * 10 + (c.toNat - 48)) r := rfl
  rw [ev]
  by_cases h1 : 1844674407370955162 ≤ acc
  ·
   rw [if_pos h1, if_neg (by omega)]
  ·
   rw [if_neg h1]
   by_cases h2 : M < acc * 10 + (c.toNat - 48)
   ·
    rw [if_pos h2, if_neg (by omega)]
   ·
    rw [if_neg h2]
    exact parseM hM r _ hr (by omega)
end Go.Proofs.YtkplklfmhieoaaaGreatDoor.Decs
end
section
namespace Go.Proofs.YtkplklfmhieoaaaGreatDoor.Pure
open Go.RowKit Go.Proofs.YtkplklfmhieoaaaGreatDoor.X Go.Proofs.YtkplklfmhieoaaaGreatDoorW.PrintWords Go.Proofs.YtkplklfmhieoaaaGreatDoorW.PrintLast Go.Proofs.YtkplklfmhieoaaaGreatDoorW.PrintMore Go.Proofs.YtkplklfmhieoaaaGreatDoor.Aid Go.Proofs.YtkplklfmhieoaaaGreatDoor.Bytes Go.Proofs.YtkplklfmhieoaaaGreatDoor.Decs
set_option linter.unusedVariables false
instance (l : T) : Decidable (Num l) := inferInstanceAs (Decidable (_ ∧ _ ∧ _))
def digL : T := [48, 49, 50, 51, 52, 53, 54, 55, 56, 57]
theorem dig_ok (b : UInt8) : digL.contains b = decide (Dig b) := byte_all (p := fun b => digL.contains b = decide (Dig b)) (by decide +kernel) b
def strip (l : T) : T := if l.head? = some 45 then l.drop 1 else l
theorem prefix_eq (l : T) : strings_TrimPrefix.f (mk l) (⟨#[45]⟩ : ByteArray) = some (mk (strip l)) := by
 unfold strings_TrimPrefix.f stringslite_TrimPrefix.f stringslite_HasPrefix.f strip
 have e1 : ((⟨#[45]⟩ : ByteArray).size : Int) = 1 := rfl
 rw [e1]
 cases l with
 | nil => rfl
 | cons c r =>
  have es : ((mk (c :: r)).size : Int) = (r.length : Int) + 1 := by rw [mk_size, List.length_cons]; omega
  have ei : ((1 : Int)).toNat = 1 := rfl
  have et : (⟨#[45]⟩ : ByteArray).toList = [45] := mk_toList [45]
  rw [es, if_pos (by omega), if_pos (by omega), if_pos (by omega), ei, mk_upto, mk_toList, et, Option.bind_some]
  by_cases h : c = 45
  ·
   subst h
   rw [if_pos (by rfl), if_pos (by omega), if_pos (by omega), mk_from]
   rfl
  ·
   rw [if_neg (by simpa using h)]
   simp [h]
theorem trim_eq {l : T} (hl : l.length ≤ 100000) : strings_Trim.f (mk l) (⟨#[48, 49, 50, 51, 52, 53, 54, 55, 56, 57]⟩ : ByteArray) = some (mk (Lib.trimS l digL)) := by
 unfold strings_Trim.f
 rw [show (⟨#[48, 49, 50, 51, 52, 53, 54, 55, 56, 57]⟩ : ByteArray) = mk digL from rfl, mk_size, mk_size, mk_data, mk_data, if_pos ⟨by omega, by decide, by decide +kernel⟩]
 rfl
theorem trim_dig (l : T) : ((mk (Lib.trimS l digL)).toList == ([] : T)) = decide (∀ c ∈ l, Dig c) := by
 rw [mk_toList, Bool.eq_iff_iff, beq_iff_eq, trim_nil, decide_eq_true_iff, List.all_eq_true]
 constructor
 ·
  intro h c hc
  have := h c hc
  rw [dig_ok] at this
  exact of_decide_eq_true this
 ·
  intro h c hc
  rw [dig_ok]
  exact decide_eq_true (h c hc)
theorem digits_eq {l : T} (hl : l.length ≤ 100000) : sat_digits.f (mk l) = some (decide (Num l)) := by
 unfold sat_digits.f
 rw [trim_eq hl, Option.bind_some, trim_dig, mk_toList]
 cases l with
 | nil => rfl
 | cons c r =>
  have hb : bt (mk (c :: r)) 0 = (c.toNat : Int) := bt_mk (l := c :: r) (i := 0) (by simp)
  rw [if_neg (by simp), mk_size, if_pos (by rw [List.length_cons]; omega), hb]
  by_cases h : c = 48
  ·
   subst h
   rw [if_pos (by rfl)]
   by_cases h2 : (48 :: r : T) = [48]
   ·
    rw [if_pos h2, h2]
    rfl
   ·
    rw [if_neg h2]
    congr 1
    symm
    exact decide_eq_false fun hn => h2 (hn.2.1 rfl)
  ·
   have h' : ¬ (c.toNat : Int) = 48 := fun e => h (byte_eq.mp (show (c.toNat : Int) = ((48 : UInt8).toNat : Int) from e))
   rw [if_neg h']
   congr 1
   apply decide_eq_decide.mpr
   constructor
   ·
    intro hd
    exact ⟨by simp, fun e => absurd (by simpa using e) h, hd⟩
   ·
    intro hn
    exact hn.2.2
def finS (neg : Bool) (u : Nat) : Int × Int :=
 if neg = true then (if u ≤ 9223372036854775808 then (-(u : Int), 0) else (0, 3)) else (if u < 9223372036854775808 then ((u : Int), 0) else (0, 3))
theorem finS_t (u : Nat) : finS true u = if u ≤ 9223372036854775808 then (-(u : Int), 0) else (0, 3) := rfl
theorem finS_f (u : Nat) : finS false u = if u < 9223372036854775808 then ((u : Int), 0) else (0, 3) := rfl
def readS (l : T) : Int × Int :=
 if Num (strip l) ∧ l ≠ [45, 48] then finS (decide (l.head? = some 45)) (val (strip l)) else (0, 2)
theorem parse_dig {l : T} (h : Num l) : Lib.parseUintB 64 l = if val l ≤ 18446744073709551615 then .ok (val l) else .range := by
 unfold Lib.parseUintB
 rw [if_neg h.1, parseM (by decide) l 0 h.2.2 (by decide)]
 rfl
def endI : Lib.NumEnd Int → Int × Int
 | .ok v => (v, 0)
 | _ => (0, 3)
theorem pb_neg (r : T) : Lib.parseIntB 64 (45 :: r) = (match Lib.parseUintB 64 r with | .ok u => if 2 ^ 63 < u then Lib.NumEnd.range else .ok (-(u : Int)) | .range => .range | _ => Lib.NumEnd.syntax) := by
 unfold Lib.parseIntB
 have e45 : (45 : UInt8).toNat = 45 := rfl
 simp only [e45]
 rw [if_pos (.inr trivial)]
 cases Lib.parseUintB 64 r with
 | ok u =>
  simp only []
  rw [if_neg (fun h => h.1 trivial)]
  simp
 | range => rfl
 | _ => rfl
theorem pb_pos {c : UInt8} {r : T} (h1 : c.toNat ≠ 43) (h2 : c.toNat ≠ 45) : Lib.parseIntB 64 (c :: r) = (match Lib.parseUintB 64 (c :: r) with | .ok u => if 2 ^ 63 ≤ u then Lib.NumEnd.range else .ok (u : Int) | .range => .range | _ => Lib.NumEnd.syntax) := by
 unfold Lib.parseIntB
 simp only []
 rw [if_neg (fun h => h.elim h1 h2)]
 cases Lib.parseUintB 64 (c :: r) with
 | ok u => simp [h2]
 | range => rfl
 | _ => rfl
theorem parseI {l : T} (h : Num (strip l)) : endI (Lib.parseIntB 64 l) = finS (decide (l.head? = some 45)) (val (strip l)) := by
 cases l with
 | nil => exact absurd rfl h.1
 | cons c r =>
  by_cases hc : c = 45
  ·
   subst hc
   have es : strip (45 :: r) = r := rfl
   rw [es] at h ⊢
   have ed : decide ((45 :: r : T).head? = some 45) = true := rfl
   rw [pb_neg, parse_dig h, ed, finS_t]
   by_cases h1 : val r ≤ 18446744073709551615
   ·
    rw [if_pos h1]
    simp only []
    by_cases h2 : val r ≤ 9223372036854775808
    ·
     rw [if_pos h2, if_neg (by omega)]
     rfl
    ·
     rw [if_neg h2, if_pos (by omega)]
     rfl
   ·
    rw [if_neg h1, if_neg (by omega)]
    rfl
  ·
   have es : strip (c :: r) = c :: r := by unfold strip; rw [if_neg (by simpa using hc)]
   rw [es] at h ⊢
   have hd := h.2.2 c List.mem_cons_self
   unfold Dig at hd
   have ed : decide ((c :: r).head? = some 45) = false := decide_eq_false (by simpa using hc)
   rw [pb_pos (by omega) (by omega), parse_dig h, ed, finS_f]
   by_cases h1 : val (c :: r) ≤ 18446744073709551615
   ·
    rw [if_pos h1]
    simp only []
    by_cases h2 : val (c :: r) < 9223372036854775808
    ·
     rw [if_pos h2, if_neg (by omega)]
     rfl
    ·
     rw [if_neg h2, if_pos (by omega)]
     rfl
   ·
    rw [if_neg h1, if_neg (by omega)]
    rfl
theorem strip_len (l : T) : (strip l).length ≤ l.length := by
 unfold strip
 split
 ·
  rw [List.length_drop]; omega
 ·
  omega
theorem read_eq {l : T} (hl : l.length ≤ 100000) : sat_Read.f (mk l) = some (readS l) := by
 unfold sat_Read.f readS
 rw [prefix_eq, Option.bind_some, digits_eq (by have := strip_len l; omega), Option.bind_some, mk_toList, mk_size, mk_data]
 by_cases h : Num (strip l)
 ·
  rw [if_pos (decide_eq_true h)]
  by_cases h2 : l = [45, 48]
  ·
   rw [if_pos h2, if_neg (fun h => h.2 h2)]
  ·
   rw [if_neg h2, if_pos (show l.length ≤ 140737488355328 by omega), if_pos ⟨h, h2⟩, ← parseI h]
   cases Lib.parseIntB 64 l with
   | ok v => rfl
   | _ => rfl
 ·
  rw [if_neg (by simpa using h), if_neg (fun g => h g.1)]
end Go.Proofs.YtkplklfmhieoaaaGreatDoor.Pure
end
section
namespace Go.Proofs.YtkplklfmhieoaaaGreatDoor.Pure
open Go.RowKit Go.Proofs.YtkplklfmhieoaaaGreatDoor.X Go.Proofs.YtkplklfmhieoaaaGreatDoorW.PrintWords Go.Proofs.YtkplklfmhieoaaaGreatDoorW.PrintLast Go.Proofs.YtkplklfmhieoaaaGreatDoorW.PrintMore Go.Proofs.YtkplklfmhieoaaaGreatDoor.Aid Go.Proofs.YtkplklfmhieoaaaGreatDoor.Bytes
set_option linter.unusedVariables false
abbrev Ev := S37
def chunkW : T := [99, 104, 117, 110, 107]
def tickW : T := [116, 105, 99, 107]
def pickW : T := [112, 105, 99, 107]
def kword (a : Int) : T := if a = 1 then chunkW else if a = 2 then tickW else pickW
def kmost (a : Int) : Int := if a = 1 then 3 else 1000000000000
theorem of_eq (a : Int) : script_of.f a = some (if 1 ≤ a ∧ a ≤ 3 then (mk (kword a), kmost a, decide (a = 1), true) else (mk [], 0, false, false)) := by
 unfold script_of.f script_kinds.f
 simp only [Option.bind_some]
 by_cases h1 : a < 1
 ·
  rw [if_pos h1, if_neg (by omega)]
  rfl
 ·
  rw [if_neg h1]
  by_cases h2 : a > 3
  ·
   rw [if_pos (by simpa using h2), if_neg (by omega)]
   rfl
  ·
   rw [if_neg (by simpa using h2), if_pos (show 1 ≤ a ∧ a ≤ 3 by omega)]
   have h3 : a = 1 ∨ a = 2 ∨ a = 3 := by omega
   have w1 : wrap64 (1 - 1) = 0 := w64 (a := 1 - 1) (by omega) (by omega)
   have w2 : wrap64 (2 - 1) = 1 := w64 (a := 2 - 1) (by omega) (by omega)
   have w3 : wrap64 (3 - 1) = 2 := w64 (a := 3 - 1) (by omega) (by omega)
   rcases h3 with rfl | rfl | rfl
   ·
    rw [w1]
    rfl
   ·
    rw [w2]
    rfl
   ·
    rw [w3]
    rfl
end Go.Proofs.YtkplklfmhieoaaaGreatDoor.Pure
end
section
namespace Go.Proofs.YtkplklfmhieoaaaGreatDoor.Pure
open Go.RowKit Go.Proofs.YtkplklfmhieoaaaGreatDoor.X Go.Proofs.YtkplklfmhieoaaaGreatDoorW.PrintWords Go.Proofs.YtkplklfmhieoaaaGreatDoorW.PrintLast Go.Proofs.YtkplklfmhieoaaaGreatDoorW.PrintMore Go.Proofs.YtkplklfmhieoaaaGreatDoor.Aid Go.Proofs.YtkplklfmhieoaaaGreatDoor.Bytes
set_option linter.unusedVariables false
def hexD : T := [48, 49, 50, 51, 52, 53, 54, 55, 56, 57, 97, 98, 99, 100, 101, 102]
def hexC (c : Int) : T := [hexD.getD (c.toNat / 16) 0, hexD.getD (c.toNat % 16) 0]
def hexL (l : List Int) : T := (l.map hexC).flatten
def hx (l : List Int) : T := if l = [] then [45] else hexL l
def hv (c : UInt8) : Int := Lib.indexByte hexD c
theorem hv_all (c : UInt8) : hexD.contains c = true → (0 ≤ hv c ∧ hv c < 16) ∧ hexD.getD (hv c).toNat 0 = c :=
 byte_all (p := fun c => hexD.contains c = true → (0 ≤ hv c ∧ hv c < 16) ∧ hexD.getD (hv c).toNat 0 = c) (by decide +kernel) c
theorem or16 {a b : Int} (ha : 0 ≤ a ∧ a < 16) (hb : 0 ≤ b ∧ b < 16) : (Go.bits .or .i64 (wrap64 (a * 16)) b) % 256 = a * 16 + b := by
 have g : ∀ m n : Fin 16, (Go.bits .or .i64 (((m.val : Nat) : Int) * 16) ((n.val : Nat) : Int)) % 256 = ((m.val : Nat) : Int) * 16 + ((n.val : Nat) : Int) := by decide +kernel
 have := g ⟨a.toNat, by omega⟩ ⟨b.toNat, by omega⟩
 simp only [Int.toNat_of_nonneg ha.1, Int.toNat_of_nonneg hb.1] at this
 rw [w64 (by omega) (by omega)]
 exact this
def prsH : T → List Int
 | a :: b :: l => (hv a * 16 + hv b) :: prsH l
 | _ => []
def dataS (s : T) : Option (List Int) :=
 if s = [45] then some [] else if s = [] then none else if s.length % 2 ≠ 0 then none else if s.all (fun b => hexD.contains b) = true then some (prsH s) else none
theorem prsH_len : ∀ (n : Nat) (s : T), s.length = 2 * n → (prsH s).length = n
 | 0, s, h => by
  rw [List.length_eq_zero_iff.1 (by omega : s.length = 0)]
  rfl
 | n + 1, s, h => by
  match s, h with
  | a :: b :: l, h =>
   rw [prsH, List.length_cons, prsH_len n l (by simpa using by simp only [List.length_cons] at h; omega)]
theorem prsH_at : ∀ (i : Nat) (s : T) (h : 2 * i + 1 < s.length) (h2 : i < (prsH s).length), (prsH s)[i] = hv (s[2 * i]'(by omega)) * 16 + hv (s[2 * i + 1])
 | 0, a :: b :: l, h, h2 => rfl
 | i + 1, a :: b :: l, h, h2 => by
  have := prsH_at i l (by simp only [List.length_cons] at h; omega) (by rw [prsH, List.length_cons] at h2; omega)
  simp only [prsH, List.getElem_cons_succ]
  rw [this]
  rfl
end Go.Proofs.YtkplklfmhieoaaaGreatDoor.Pure
end
section
namespace Go.Proofs.YtkplklfmhieoaaaGreatDoor.Pure
open Go.RowKit Go.Proofs.YtkplklfmhieoaaaGreatDoor.X Go.Proofs.YtkplklfmhieoaaaGreatDoorW.PrintWords Go.Proofs.YtkplklfmhieoaaaGreatDoorW.PrintLast Go.Proofs.YtkplklfmhieoaaaGreatDoorW.PrintMore Go.Proofs.YtkplklfmhieoaaaGreatDoor.Aid Go.Proofs.YtkplklfmhieoaaaGreatDoor.Bytes
set_option linter.unusedVariables false
end Go.Proofs.YtkplklfmhieoaaaGreatDoor.Pure
end
section
namespace Go.Proofs.YtkplklfmhieoaaaGreatDoor.Pure
open Go.RowKit Go.Proofs.YtkplklfmhieoaaaGreatDoor.X Go.Proofs.YtkplklfmhieoaaaGreatDoorW.PrintWords Go.Proofs.YtkplklfmhieoaaaGreatDoorW.PrintLast Go.Proofs.YtkplklfmhieoaaaGreatDoorW.PrintMore Go.Proofs.YtkplklfmhieoaaaGreatDoor.Aid Go.Proofs.YtkplklfmhieoaaaGreatDoor.Bytes
set_option linter.unusedVariables false
theorem set_next {a b : List Int} {n : Nat} {x : Int} (h : a.length = n) : (a ++ b).set n x = a ++ b.set 0 x := by
 subst h
 rw [List.set_append_right _ _ (Nat.le_refl _), Nat.sub_self]
theorem data_l0 {s : T} (hs : s.length ≤ 100000) {n : Nat} (hn : s.length = 2 * n) (ha : ∀ c ∈ s, hexD.contains c = true) (d : Nat) : ∀ (i k : Nat), i + d = n → d < k →
 script_data.l0 k (mk s) ((prsH s).take i ++ List.replicate d 0) (n : Int) (i : Int) = some (prsH s, true) := by
 have hp := prsH_len n s hn
 induction d with
 | zero =>
  intro i k hi hk
  obtain ⟨k, rfl⟩ := succ_of hk
  simp only [script_data.l0]
  rw [if_neg (by omega), List.replicate_zero, List.append_nil, List.take_of_length_le (by omega)]
 | succ d ih =>
  intro i k hi hk
  obtain ⟨k, rfl⟩ := succ_of hk
  have h1 : 2 * i < s.length := by omega
  have h2 : 2 * i + 1 < s.length := by omega
  have e1 : wrap64 (2 * (i : Int)) = ((2 * i : Nat) : Int) := by
   rw [w64 (by omega) (by omega)]
   omega
  have e2 : wrap64 (((2 * i : Nat) : Int) + 1) = ((2 * i + 1 : Nat) : Int) := w64s (by omega)
  have a1 := (hv_all _ (ha _ (List.getElem_mem h1))).1
  have a2 := (hv_all _ (ha _ (List.getElem_mem h2))).1
  have b1 : strings_IndexByte.f (⟨#[48, 49, 50, 51, 52, 53, 54, 55, 56, 57, 97, 98, 99, 100, 101, 102]⟩ : ByteArray) (bt (mk s) ((2 * i : Nat) : Int)) = some (hv s[2 * i]) := by
   rw [bt_mk h1]
   unfold strings_IndexByte.f hv
   rw [byte_back]
   rfl
  have b2 : strings_IndexByte.f (⟨#[48, 49, 50, 51, 52, 53, 54, 55, 56, 57, 97, 98, 99, 100, 101, 102]⟩ : ByteArray) (bt (mk s) ((2 * i + 1 : Nat) : Int)) = some (hv s[2 * i + 1]) := by
   rw [bt_mk h2]
   unfold strings_IndexByte.f hv
   rw [byte_back]
   rfl
  have ht : ((prsH s).take i).length = i := by rw [List.length_take]; omega
  simp only [script_data.l0]
  rw [e1, e2, mk_size, if_pos (by omega), if_pos (by omega), if_pos (by omega), b1]
  simp only [Option.bind_some]
  rw [if_pos (by omega), if_pos (by omega), b2]
  simp only [Option.bind_some, Int.toNat_natCast]
  rw [if_pos (by omega), if_pos (by rw [List.length_append, ht, List.length_replicate]; omega), or16 a1 a2, w64s (by omega), set_next ht, List.replicate_succ, List.set_cons_zero]
  have hi2 : i < (prsH s).length := by omega
  have h3 := ih (i + 1) k (by omega) (by omega)
  rw [take_at hi2, prsH_at i s h2 hi2, List.append_assoc] at h3
  exact h3
theorem trimH_eq {l : T} (hl : l.length ≤ 100000) : strings_Trim.f (mk l) (⟨#[48, 49, 50, 51, 52, 53, 54, 55, 56, 57, 97, 98, 99, 100, 101, 102]⟩ : ByteArray) = some (mk (Lib.trimS l hexD)) := by
 unfold strings_Trim.f
 rw [show (⟨#[48, 49, 50, 51, 52, 53, 54, 55, 56, 57, 97, 98, 99, 100, 101, 102]⟩ : ByteArray) = mk hexD from rfl, mk_size, mk_size, mk_data, mk_data, if_pos ⟨by omega, by decide, by decide +kernel⟩]
 rfl
def outD : Option (List Int) → List Int × Bool
 | some d => (d, true)
 | none => ([], false)
theorem data_j0t (s : ByteArray) {k : Nat} (hk : 0 < k) : script_data.j0 k s true = some ([], false) := by
 obtain ⟨k, rfl⟩ := succ_of hk
 simp only [script_data.j0]
 rfl
theorem data_eq {s : T} (hs : s.length ≤ 100000) {k : Nat} (hk : 100000 < k) : script_data.f k (mk s) = some (outD (dataS s)) := by
 unfold script_data.f dataS
 rw [mk_toList, mk_size]
 by_cases h1 : s = [45]
 ·
  rw [if_pos h1, if_pos h1]
  rfl
 ·
  rw [if_neg h1, if_neg h1]
  by_cases h2 : s = []
  ·
   rw [if_pos h2, if_pos h2, data_j0t _ (by omega)]
   rfl
  ·
   rw [if_neg h2, if_neg h2]
   by_cases h3 : s.length % 2 ≠ 0
   ·
    rw [if_pos (by omega), if_pos h3, data_j0t _ (by omega)]
    rfl
   ·
    rw [if_neg (by omega), if_neg h3, trimH_eq hs]
    simp only [Option.bind_some, mk_toList]
    by_cases h4 : s.all (fun b => hexD.contains b) = true
    ·
     have e : (Lib.trimS s hexD != ([] : T)) = false := by
      rw [(trim_nil s hexD).2 h4]
      rfl
     rw [if_pos h4, e]
     obtain ⟨k, rfl⟩ := succ_of hk
     obtain ⟨n, hn⟩ : ∃ n, s.length = 2 * n := ⟨s.length / 2, by omega⟩
     have e2 : wrap64 ((s.length : Int) / 2) = (n : Int) := by
      rw [w64 (by omega) (by omega)]
      omega
     simp only [script_data.j0, mk_size, e2, Int.toNat_natCast, Option.bind_some, List.length_replicate]
     rw [if_neg (by simp), if_pos (by omega), if_pos (by omega)]
     have := data_l0 hs hn (fun c hc => List.all_eq_true.1 h4 c hc) n 0 k (by omega) (by omega)
     rw [List.take_zero, List.nil_append] at this
     exact this
    ·
     have e : (Lib.trimS s hexD != ([] : T)) = true := by
      rw [bne_iff_ne]
      exact fun h => h4 ((trim_nil s hexD).1 h)
     rw [if_neg h4, e, data_j0t _ (by omega)]
     rfl
end Go.Proofs.YtkplklfmhieoaaaGreatDoor.Pure
end
section
namespace Go.Proofs.YtkplklfmhieoaaaGreatDoor.Pure
open Go.RowKit Go.Proofs.YtkplklfmhieoaaaGreatDoor.X Go.Proofs.YtkplklfmhieoaaaGreatDoorW.PrintWords Go.Proofs.YtkplklfmhieoaaaGreatDoorW.PrintLast Go.Proofs.YtkplklfmhieoaaaGreatDoorW.PrintMore Go.Proofs.YtkplklfmhieoaaaGreatDoor.Aid Go.Proofs.YtkplklfmhieoaaaGreatDoor.Bytes
set_option linter.unusedVariables false
theorem split_l0 (c : UInt8) (n : Nat) : ∀ (l : T) (k : Nat) (acc : List ByteArray), l.length ≤ n → n + 1 < k → acc.length + n + 1 < 100000 → word_Split.l0 k (mk l) (c.toNat : Int) acc = some (acc ++ (spl c l).map mk) := by
 induction n with
 | zero =>
  intro l k acc hl hk ha
  obtain ⟨k, rfl⟩ := succ_of hk
  have e : l = [] := List.eq_nil_of_length_eq_zero (by omega)
  subst e
  simp only [word_Split.l0, strings_IndexByte.f, Option.bind_some, mk_data, byte_back]
  rw [if_pos (by simp [Lib.indexByte]), if_pos (by omega)]
  rfl
 | succ n ih =>
  intro l k acc hl hk ha
  obtain ⟨k, rfl⟩ := succ_of hk
  simp only [word_Split.l0, strings_IndexByte.f, Option.bind_some, mk_data, byte_back, mk_size]
  rcases idx_spl c l with ⟨h1, h2⟩ | ⟨i, h1, h2, h3⟩
  ·
   rw [h1, h2, if_pos (by decide), if_pos (by omega)]
   rfl
  ·
   have hw : wrap64 ((i : Int) + 1) = ((i + 1 : Nat) : Int) := w64s (by omega)
   rw [h1, if_neg (by omega), if_pos (by omega), if_pos (by omega), if_pos (by omega), hw, if_pos (by omega), if_pos (by omega), Int.toNat_natCast, Int.toNat_natCast, mk_upto]
   have he := mk_from l (i + 1)
   rw [mk_size] at he
   rw [he, ih (l.drop (i + 1)) k _ (by rw [List.length_drop]; omega) (by omega) (by rw [List.length_append, List.length_singleton]; omega), h3, List.map_cons, List.append_assoc]
   rfl
theorem split_eq (c : UInt8) {l : T} (hl : l.length ≤ 20000) (k : Nat) (hk : 20010 < k) : word_Split.f k (mk l) (c.toNat : Int) = some ((spl c l).map mk) :=
 split_l0 c 20000 l k [] hl (by omega) (by simp)
end Go.Proofs.YtkplklfmhieoaaaGreatDoor.Pure
end
section
namespace Go.Proofs.YtkplklfmhieoaaaGreatDoor.Pure
open Go.RowKit Go.Proofs.YtkplklfmhieoaaaGreatDoor.X Go.Proofs.YtkplklfmhieoaaaGreatDoorW.PrintWords Go.Proofs.YtkplklfmhieoaaaGreatDoorW.PrintLast Go.Proofs.YtkplklfmhieoaaaGreatDoorW.PrintMore Go.Proofs.YtkplklfmhieoaaaGreatDoor.Aid Go.Proofs.YtkplklfmhieoaaaGreatDoor.Bytes
set_option linter.unusedVariables false
open Go.Lib (index occAt NoOcc)
theorem occ_iff {s sub : T} {i : Nat} : occAt s sub i = true ↔ ∃ v, s.drop i = sub ++ v := by
 unfold occAt
 rw [List.isPrefixOf_iff_prefix]
 exact ⟨fun ⟨v, h⟩ => ⟨v, h.symm⟩, fun ⟨v, h⟩ => ⟨v, h.symm⟩⟩
theorem no_occ {a r t : T} {c : UInt8} (h : c ∉ a) : NoOcc (a ++ r) (c :: t) a.length := by
 intro j hj
 rw [Bool.eq_false_iff]
 intro e
 obtain ⟨v, hv⟩ := occ_iff.mp e
 rw [List.drop_append_of_le_length (by omega), drop_at hj, List.cons_append, List.cons_append] at hv
 injection hv with h1 _
 exact h (by rw [← h1]; exact List.getElem_mem hj)
theorem index_at {a t v : T} {c : UInt8} (h : c ∉ a) : index (a ++ ((c :: t) ++ v)) (c :: t) = (a.length : Int) :=
 Go.Lib.index_hit (no_occ h) (by rw [List.length_append]; omega) (occ_iff.mpr ⟨v, by rw [List.drop_left]⟩)
theorem index_no {a t : T} {c : UInt8} (h : c ∉ a) : index a (c :: t) = -1 := by
 have h2 := no_occ (r := []) (t := t) h
 rw [List.append_nil] at h2
 exact Go.Lib.index_past (by simp) h2 (by simp)
theorem first_at (c : UInt8) : ∀ p : T, c ∉ p ∨ ∃ a v, p = a ++ c :: v ∧ c ∉ a
 | [] => .inl (by simp)
 | x :: p => by
  by_cases h : x = c
  ·
   exact .inr ⟨[], p, by rw [h]; rfl, by simp⟩
  ·
   rcases first_at c p with h2 | ⟨a, v, e, h2⟩
   ·
    exact .inl (by rw [List.mem_cons, not_or]; exact ⟨fun e => h e.symm, h2⟩)
   ·
    exact .inr ⟨x :: a, v, by rw [e]; rfl, by rw [List.mem_cons, not_or]; exact ⟨fun e => h e.symm, h2⟩⟩
theorem cut_at {a v : T} {c : UInt8} (h : c ∉ a) : Lib.cut (a ++ c :: v) [c] = (a, v, true) := by
 have e := index_at (t := []) (v := v) h
 rw [show ([c] : T) ++ v = c :: v from rfl] at e
 unfold Lib.cut
 rw [e, if_pos (by omega), Int.toNat_natCast, List.take_left, List.length_singleton, ← List.drop_drop, List.drop_left]
 rfl
theorem cut_no {a : T} {c : UInt8} (h : c ∉ a) : Lib.cut a [c] = (a, [], false) := by
 unfold Lib.cut
 rw [index_no h, if_neg (by decide)]
def kd (w : T) : Int := if w = chunkW then 1 else if w = tickW then 2 else if w = pickW then 3 else 0
theorem kd_back {w : T} (h : kd w ≠ 0) : kword (kd w) = w ∧ 1 ≤ kd w ∧ kd w ≤ 3 := by
 unfold kd at h ⊢
 by_cases h1 : w = chunkW
 ·
  rw [if_pos h1, h1]
  decide
 ·
  rw [if_neg h1] at h ⊢
  by_cases h2 : w = tickW
  ·
   rw [if_pos h2, h2]
   decide
  ·
   rw [if_neg h2] at h ⊢
   by_cases h3 : w = pickW
   ·
    rw [if_pos h3, h3]
    decide
   ·
    rw [if_neg h3] at h
    exact absurd rfl h
def dEv : Ev := ⟨0, 0, []⟩
def badN (a : Int) (n : Nat) : Bool := if a = 1 then decide (n ≠ 3) else decide (n ≠ 2)
def evS (L : List T) : Ev × Int :=
 if kd (L.getD 0 []) = 0 then (dEv, 2)
 else if badN (kd (L.getD 0 [])) L.length = true then (dEv, 2)
 else if (readS (L.getD 1 [])).2 = 0 then
  (if (readS (L.getD 1 [])).1 < 0 then (dEv, 3) else if (readS (L.getD 1 [])).1 > kmost (kd (L.getD 0 [])) then (dEv, 3)
   else if kd (L.getD 0 []) = 1 then (match dataS (L.getD 2 []) with | some d => (⟨1, (readS (L.getD 1 [])).1, d⟩, 0) | none => (⟨1, (readS (L.getD 1 [])).1, []⟩, 2))
   else (⟨kd (L.getD 0 []), (readS (L.getD 1 [])).1, []⟩, 0))
 else (dEv, (readS (L.getD 1 [])).2)
theorem find_eq {L : List T} (hL : L ≠ []) : ∃ ks, script_kinds.f = some ks ∧ script_find.f ks (L.map mk) = some (kd (L.getD 0 []) - 1) := by
 refine ⟨_, rfl, ?_⟩
 unfold script_find.f
 cases L with
 | nil => exact absurd rfl hL
 | cons x L =>
  have e0 : rdOf ByteArray.empty ((x :: L).map mk) 0 = mk x := rds (L := x :: L) (i := 0) (by simp)
  rw [if_pos (by simp), e0, mk_toList]
  have g0 : (x :: L).getD 0 [] = x := rfl
  rw [g0]
  have t1 : ((⟨#[99, 104, 117, 110, 107]⟩ : ByteArray)).toList = chunkW := mk_toList chunkW
  have t2 : ((⟨#[116, 105, 99, 107]⟩ : ByteArray)).toList = tickW := mk_toList tickW
  have t3 : ((⟨#[112, 105, 99, 107]⟩ : ByteArray)).toList = pickW := mk_toList pickW
  unfold script_kind.idx
  simp only [t1]
  unfold kd
  by_cases h1 : x = chunkW
  ·
   rw [if_pos (by rw [h1]; exact beq_self_eq_true _), if_pos h1]
   rfl
  ·
   rw [if_neg (by simpa using fun h => h1 h.symm), if_neg h1]
   unfold script_kind.idx
   simp only [t2]
   by_cases h2 : x = tickW
   ·
    rw [if_pos (by rw [h2]; exact beq_self_eq_true _), if_pos h2]
    rfl
   ·
    rw [if_neg (by simpa using fun h => h2 h.symm), if_neg h2]
    unfold script_kind.idx
    simp only [t3]
    by_cases h3 : x = pickW
    ·
     rw [if_pos (by rw [h3]; exact beq_self_eq_true _), if_pos h3]
     rfl
    ·
     rw [if_neg (by simpa using fun h => h3 h.symm), if_neg h3]
     rfl
theorem kd_range (w : T) : 0 ≤ kd w ∧ kd w ≤ 3 := by
 by_cases h : kd w = 0
 ·
  omega
 ·
  have := kd_back h
  omega
theorem event_j0t (L : List ByteArray) (a : Int) (s : ByteArray) (m : Int) (b : Bool) {k : Nat} (hk : 0 < k) : script_event.j0 k L a true 0 0 s m b = some (0, 0, [], 2) := by
 obtain ⟨k, rfl⟩ := succ_of hk
 simp only [script_event.j0]
 rfl
theorem event_eq {L : List T} (hL : L ≠ []) (hp : ∀ p ∈ L, p.length ≤ 100000) {k : Nat} (hk : 100001 < k) :
 script_event.f k (L.map mk) = some ((evS L).1.f0, (evS L).1.f1, (evS L).1.f2, (evS L).2) := by
 obtain ⟨ks, hks, hf⟩ := find_eq hL
 unfold script_event.f evS
 rw [hks]
 simp only [Option.bind_some]
 rw [hf]
 simp only [Option.bind_some]
 have hr := kd_range (L.getD 0 [])
 generalize hkd : kd (L.getD 0 []) = a at hr ⊢
 have ew : wrap64 (a - 1 + 1) = a := by
  rw [w64 (by omega) (by omega)]
  omega
 rw [ew, of_eq]
 by_cases h0 : a = 0
 ·
  rw [if_neg (by omega), if_pos h0]
  simp only [Option.bind_some]
  rw [if_neg (by simp), event_j0t _ _ _ _ _ (by omega)]
  rfl
 ·
  have h13 : 1 ≤ a ∧ a ≤ 3 := by omega
  rw [if_pos h13, if_neg h0]
  simp only [Option.bind_some, if_true, List.length_map]
  have hflag : (if decide (a = 1) = true then (if (L.length : Int) = 3 then (script_event.j0 k (L.map mk) (a - 1) false 0 0 (mk (kword a)) (kmost a) (decide (a = 1))) else (script_event.j0 k (L.map mk) (a - 1) true 0 0 (mk (kword a)) (kmost a) (decide (a = 1)))) else (script_event.j0 k (L.map mk) (a - 1) ((L.length : Int) != 2) 0 0 (mk (kword a)) (kmost a) (decide (a = 1)))) = script_event.j0 k (L.map mk) (a - 1) (badN a L.length) 0 0 (mk (kword a)) (kmost a) (decide (a = 1)) := by
   unfold badN
   by_cases h1 : a = 1
   ·
    rw [if_pos (decide_eq_true h1), if_pos h1]
    by_cases h2 : L.length = 3
    ·
     have e : decide (L.length ≠ 3) = false := decide_eq_false (by omega)
     rw [if_pos (by omega), e]
    ·
     have e : decide (L.length ≠ 3) = true := decide_eq_true h2
     rw [if_neg (by omega), e]
   ·
    rw [if_neg (by simpa using h1), if_neg h1]
    congr 1
    by_cases h2 : L.length = 2
    ·
     have e : decide (L.length ≠ 2) = false := decide_eq_false (by omega)
     rw [e]
     exact bne_eq_false_iff_eq.2 (by omega)
    ·
     have e : decide (L.length ≠ 2) = true := decide_eq_true h2
     rw [e]
     exact bne_iff_ne.2 (by omega)
  rw [hflag]
  by_cases hb : badN a L.length = true
  ·
   rw [hb, if_pos rfl, event_j0t _ _ _ _ _ (by omega)]
   rfl
  ·
   rw [if_neg hb, Bool.eq_false_iff.2 hb]
   obtain ⟨k, rfl⟩ := succ_of hk
   have hlen : 1 < L.length ∧ (a = 1 → 2 < L.length) := by
    unfold badN at hb
    by_cases h1 : a = 1
    ·
     rw [if_pos h1, decide_eq_true_eq] at hb
     omega
    ·
     rw [if_neg h1, decide_eq_true_eq] at hb
     omega
   have e1 : L.getD 1 [] = L[1] := by rw [List.getD_eq_getElem?_getD, List.getElem?_eq_getElem hlen.1]; rfl
   have r1 : rdOf ByteArray.empty (L.map mk) 1 = mk L[1] := rds (L := L) (i := 1) hlen.1
   simp only [script_event.j0, List.length_map]
   rw [if_neg (by simp), if_pos (by omega), r1, read_eq (hp _ (List.getElem_mem hlen.1)), e1]
   simp only [Option.bind_some]
   by_cases h2 : (readS L[1]).2 = 0
   ·
    rw [if_pos h2, if_pos h2]
    by_cases h3 : (readS L[1]).1 < 0
    ·
     rw [if_pos h3, if_pos h3]
     rfl
    ·
     rw [if_neg h3, if_neg h3]
     by_cases h4 : (readS L[1]).1 > kmost a
     ·
      rw [if_pos h4, if_pos h4]
      rfl
     ·
      rw [if_neg h4, if_neg h4]
      by_cases h5 : a = 1
      ·
       have hl2 := hlen.2 h5
       have e2 : L.getD 2 [] = L[2] := by rw [List.getD_eq_getElem?_getD, List.getElem?_eq_getElem hl2]; rfl
       have r2 : rdOf ByteArray.empty (L.map mk) 2 = mk L[2] := rds (L := L) (i := 2) hl2
       rw [if_pos (decide_eq_true h5), if_pos h5, if_pos (by omega), r2, data_eq (hp _ (List.getElem_mem hl2)) (by omega), e2]
       simp only [Option.bind_some, ew]
       subst h5
       cases dataS L[2] with
       | none => rfl
       | some d => rfl
      ·
       rw [if_neg (by simpa using h5), if_neg h5, ew]
   ·
    rw [if_neg h2, if_neg h2]
    rfl
def prsL : List T → List Ev → List Ev × Int × Int
 | [], acc => (acc, 0, 0)
 | x :: r, acc => if r = [] ∧ x = [] then (acc, 0, 0) else if acc.length + 1 > 2000 then ([], (acc.length : Int) + 1, 4) else if r = [] then ([], (acc.length : Int) + 1, 2)
  else if (evS (spl 32 x)).2 = 0 then prsL r (acc ++ [(evS (spl 32 x)).1]) else ([], (acc.length : Int) + 1, (evS (spl 32 x)).2)
theorem prsL_cons (x : T) (r : List T) (acc : List Ev) : prsL (x :: r) acc = if r = [] ∧ x = [] then (acc, 0, 0) else if acc.length + 1 > 2000 then ([], (acc.length : Int) + 1, 4) else if r = [] then ([], (acc.length : Int) + 1, 2)
 else if (evS (spl 32 x)).2 = 0 then prsL r (acc ++ [(evS (spl 32 x)).1]) else ([], (acc.length : Int) + 1, (evS (spl 32 x)).2) := rfl
theorem cut10 {s : T} (h : s.length ≤ 90000000) : strings_Cut.f (mk s) (⟨#[10]⟩ : ByteArray) = some (mk (Lib.cut s [10]).1, mk (Lib.cut s [10]).2.1, (Lib.cut s [10]).2.2) := by
 unfold strings_Cut.f
 rw [mk_size, if_pos (by omega), mk_data]
 rfl
theorem parse_l0 (n : Nat) : ∀ (s : T) (k : Nat) (acc : List Ev), s.length ≤ n → s.length ≤ 90000000 → (∀ p ∈ spl 10 s, p.length ≤ 20000) → n + 100020 < k → acc.length ≤ 2000 →
 script_Parse.l0 k (mk s) acc = some (prsL (spl 10 s) acc) := by
 induction n with
 | zero =>
  intro s k acc hn hs hp hk ha
  obtain ⟨k, rfl⟩ := succ_of hk
  have e : s = [] := List.length_eq_zero_iff.1 (by omega)
  subst e
  simp only [script_Parse.l0]
  rw [mk_toList, if_pos rfl]
  rfl
 | succ n ih =>
  intro s k acc hn hs hp hk ha
  obtain ⟨k, rfl⟩ := succ_of hk
  simp only [script_Parse.l0]
  rw [mk_toList]
  have ew : wrap64 ((acc.length : Int) + 1) = (acc.length : Int) + 1 := by rw [w64 (by omega) (by omega)]
  rw [ew]
  by_cases h0 : s = []
  ·
   rw [if_pos h0, h0]
   rfl
  ·
   rw [if_neg h0, cut10 hs]
   simp only [Option.bind_some]
   rcases first_at 10 s with h | ⟨a, v, e, h⟩
   ·
    have e0 : ¬ (([] : List T) = [] ∧ s = []) := fun h => h0 h.2
    rw [spl_no 10 s h, cut_no h, prsL_cons]
    by_cases h1 : acc.length + 1 > 2000
    ·
     rw [if_pos (by omega), if_neg e0, if_pos h1]
    ·
     rw [if_neg (by omega), if_neg e0, if_neg h1]
     rfl
   ·
    have hsp : spl 10 s = a :: spl 10 v := by rw [e, spl_app 10 a v h]
    have hne : spl 10 v ≠ [] := spl_ne 10 v
    have hla : a.length ≤ 20000 := hp a (by rw [hsp]; exact List.mem_cons_self)
    have hlv : s.length = a.length + 1 + v.length := by rw [e, List.length_append, List.length_cons]; omega
    have e0 : ¬ (spl 10 v = [] ∧ a = []) := fun h => hne h.1
    rw [hsp, prsL_cons, e, cut_at h]
    by_cases h1 : acc.length + 1 > 2000
    ·
     rw [if_pos (by omega), if_neg e0, if_pos h1]
    ·
     rw [if_neg (by omega), if_neg e0, if_neg h1, if_neg hne]
     simp only [if_true]
     have hsplit := split_eq 32 hla k (by omega)
     rw [show ((32 : UInt8).toNat : Int) = 32 from rfl] at hsplit
     rw [hsplit]
     simp only [Option.bind_some]
     rw [event_eq (spl_ne 32 a) (fun p hp2 => by have := spl_short 32 a p hp2; omega) (by omega)]
     simp only [Option.bind_some]
     by_cases h2 : (evS (spl 32 a)).2 = 0
     ·
      rw [if_pos h2, if_pos h2, if_pos (by omega)]
      exact ih v k (acc ++ [(evS (spl 32 a)).1]) (by omega) (by omega) (fun p hp2 => hp p (by rw [hsp]; exact List.mem_cons_of_mem _ hp2)) (by omega) (by rw [List.length_append, List.length_singleton]; omega)
     ·
      rw [if_neg h2, if_neg h2]
theorem parse_eq {s : T} (hs : s.length ≤ 90000000) (hp : ∀ p ∈ spl 10 s, p.length ≤ 20000) {k : Nat} (hk : s.length + 100020 < k) : script_Parse.f k (mk s) = some (prsL (spl 10 s) []) :=
 parse_l0 s.length s k [] (Nat.le_refl _) hs hp hk (Nat.zero_le _)
end Go.Proofs.YtkplklfmhieoaaaGreatDoor.Pure
end
section
namespace Go.Proofs.YtkplklfmhieoaaaGreatDoor.Pure
open Go.RowKit Go.Proofs.YtkplklfmhieoaaaGreatDoor.X Go.Proofs.YtkplklfmhieoaaaGreatDoorW.PrintWords Go.Proofs.YtkplklfmhieoaaaGreatDoorW.PrintLast Go.Proofs.YtkplklfmhieoaaaGreatDoorW.PrintMore Go.Proofs.YtkplklfmhieoaaaGreatDoor.Aid Go.Proofs.YtkplklfmhieoaaaGreatDoor.Bytes Go.Proofs.YtkplklfmhieoaaaGreatDoor.Decs
set_option linter.unusedVariables false
theorem rtdiv_neg (u : Nat) : Int.tdiv (-(u : Int)) 10 = -((u / 10 : Nat) : Int) := by
 rw [Int.neg_tdiv]
 rfl
theorem l1_eq {n : Nat} {t : T} (x0 : ByteArray) (hx : x0.size = n) (ht : t.length ≤ 100000) (d : Nat) : ∀ (i k v : Nat), i + d = t.length → d < k → v ≤ 9223372036854775808 → (∀ c ∈ t.drop i, Dig c) →
 r01_Read.l1 k x0 (mk t) (-(v : Int)) (i : Int) = some (finS (decide (t.length < n)) (valF v (t.drop i))) := by
 induction d with
 | zero =>
  intro i k v hi hk hv hd
  obtain ⟨k, rfl⟩ := succ_of hk
  rw [r01_Read.l1, mk_size, if_neg (by omega), List.drop_of_length_le (by omega), hx]
  have ev : valF v [] = v := rfl
  rw [ev]
  by_cases h : t.length < n
  ·
   rw [if_pos (by omega), decide_eq_true h, finS_t, if_pos hv]
  ·
   rw [if_neg (by omega), decide_eq_false h, finS_f]
   by_cases h2 : v < 9223372036854775808
   ·
    rw [if_neg (by omega), if_pos h2, w64 (by omega) (by omega), Int.neg_neg]
   ·
    rw [if_pos (by omega), if_neg h2]
 | succ d ih =>
  intro i k v hi hk hv hd
  obtain ⟨k, rfl⟩ := succ_of hk
  have hlt : i < t.length := by omega
  have hdi : Dig t[i] := hd _ (by rw [drop_at hlt]; exact List.mem_cons_self)
  have hdr : ∀ c ∈ t.drop (i + 1), Dig c := fun c hc => hd c (by rw [drop_at hlt]; exact List.mem_cons_of_mem _ hc)
  rw [r01_Read.l1, mk_size, if_pos (by omega), if_pos (by omega), bt_mk hlt, drop_at hlt]
  unfold Dig at hdi
  have e1 : ((t[i].toNat : Int) - 48) % 256 = ((t[i].toNat - 48 : Nat) : Int) := by omega
  rw [e1]
  have hu : t[i].toNat - 48 ≤ 9 := by omega
  generalize hdv : t[i].toNat - 48 = dv at hu ⊢
  have e2 : Int.tdiv ((-9223372036854775808) + (dv : Int)) 10 = -(((9223372036854775808 - dv) / 10 : Nat) : Int) := by
   rw [show (-9223372036854775808 : Int) + (dv : Int) = -((9223372036854775808 - dv : Nat) : Int) by omega, rtdiv_neg]
  have ev : valF v (t[i] :: t.drop (i + 1)) = valF (v * 10 + dv) (t.drop (i + 1)) := by rw [← hdv]; rfl
  rw [e2, w64 (a := -(((9223372036854775808 - dv) / 10 : Nat) : Int)) (by omega) (by omega), ev]
  by_cases h : 9223372036854775808 < v * 10 + dv
  ·
   have hge := valF_ge (t.drop (i + 1)) (v * 10 + dv)
   rw [if_pos (by omega)]
   unfold finS
   rw [if_neg (show ¬ valF (v * 10 + dv) (t.drop (i + 1)) ≤ 9223372036854775808 by omega), if_neg (show ¬ valF (v * 10 + dv) (t.drop (i + 1)) < 9223372036854775808 by omega)]
   split <;> rfl
  ·
   rw [if_neg (by omega), w64 (a := 10 * -(v : Int)) (by omega) (by omega), w64 (a := 10 * -(v : Int) - (dv : Int)) (by omega) (by omega), w64s (by omega)]
   have := ih (i + 1) k (v * 10 + dv) (by omega) (by omega) (by omega) hdr
   rw [show 10 * -(v : Int) - (dv : Int) = -((v * 10 + dv : Nat) : Int) by omega]
   exact this
theorem l0_eq {n : Nat} {t : T} (x0 : ByteArray) (hx : x0.size = n) (ht : t.length ≤ 100000) (d : Nat) : ∀ (i k : Nat), i + d = t.length → d + t.length + 1 < k → (∀ c ∈ t.take i, Dig c) →
 r01_Read.l0 k x0 (mk t) (i : Int) = some (if ∀ c ∈ t, Dig c then finS (decide (t.length < n)) (val t) else (0, 2)) := by
 induction d with
 | zero =>
  intro i k hi hk hd
  obtain ⟨k, rfl⟩ := succ_of hk
  rw [List.take_of_length_le (by omega)] at hd
  rw [r01_Read.l0, mk_size, if_neg (by omega), if_pos hd]
  have := l1_eq x0 hx ht t.length 0 k 0 (by omega) (by omega) (by omega) hd
  exact this
 | succ d ih =>
  intro i k hi hk hd
  obtain ⟨k, rfl⟩ := succ_of hk
  have hlt : i < t.length := by omega
  rw [r01_Read.l0, mk_size, if_pos (by omega), if_pos (by omega), bt_mk hlt]
  by_cases h : Dig t[i]
  ·
   have h' := h
   unfold Dig at h'
   rw [if_neg (by omega), if_neg (by omega), w64s (by omega)]
   refine ih (i + 1) k (by omega) (by omega) fun c hc => ?_
   rw [take_at hlt, List.mem_append, List.mem_singleton] at hc
   rcases hc with hc | rfl
   ·
    exact hd c hc
   ·
    exact h
  ·
   have ha : ¬ ∀ c ∈ t, Dig c := fun g => h (g _ (List.getElem_mem hlt))
   unfold Dig at h
   rw [if_neg ha]
   by_cases h1 : (t[i].toNat : Int) < 48
   ·
    rw [if_pos h1]
   ·
    rw [if_neg h1, if_pos (by omega)]
theorem l0_at {n : Nat} {t : T} (x0 : ByteArray) (hx : x0.size = n) (ht : t.length ≤ 20000) {k : Nat} (hk : 40100 ≤ k) :
 r01_Read.l0 k x0 (mk t) 0 = some (if ∀ c ∈ t, Dig c then finS (decide (t.length < n)) (val t) else (0, 2)) :=
 l0_eq x0 hx (by omega) t.length 0 k (by omega) (by omega) (by intro c hc; rw [List.take_zero] at hc; exact absurd hc List.not_mem_nil)
theorem rread_eq {l : T} (hl : l.length ≤ 20000) {k : Nat} (hk : 40200 ≤ k) : r01_Read.f k (mk l) = some (readS l) := by
 obtain ⟨k, rfl⟩ : ∃ m, k = m + 3 := ⟨k - 3, by omega⟩
 unfold r01_Read.f readS
 match l with
 | [] => rfl
 | [c] =>
  have hb : bt (mk [c]) 0 = (c.toNat : Int) := bt_mk (l := [c]) (i := 0) (by simp)
  have hz : ((mk [c]).size : Int) = 1 := by rw [mk_size]; rfl
  rw [hz, if_neg (by decide), r01_Read.j0, if_neg (by decide), r01_Read.j1, hz, if_neg (by decide), if_pos (by decide), hb, decide_eq_false (by decide), ite_self, r01_Read.j2, if_neg (by decide), l0_at _ (mk_size [c]) (by simp) (by omega)]
  congr 1
  by_cases h : Dig c
  ·
   have h' : c ≠ 45 := fun e => by subst e; exact absurd h (by decide)
   have es : strip [c] = [c] := by unfold strip; rw [if_neg (by simpa using h')]
   have ha : ∀ x ∈ [c], Dig x := fun x hx => by rw [List.mem_singleton] at hx; rw [hx]; exact h
   have hn : Num [c] := ⟨by simp, fun e => by simpa using e, ha⟩
   rw [es, if_pos ha, if_pos ⟨hn, by simp⟩, decide_eq_false (show ¬ [c].head? = some 45 by simpa using h')]
   rfl
  ·
   rw [if_neg (fun g => h (g c List.mem_cons_self)), if_neg]
   intro g
   have g2 := g.1.2.2
   have g1 := g.1.1
   unfold strip at g1 g2
   by_cases h' : c = 45
   ·
    subst h'
    exact g1 rfl
   ·
    rw [if_neg (by simpa using h')] at g2
    exact h (g2 c List.mem_cons_self)
 | c :: e :: r =>
  have hb : bt (mk (c :: e :: r)) 0 = (c.toNat : Int) := bt_mk (l := c :: e :: r) (i := 0) (by simp)
  have hz : (mk (c :: e :: r)).size = r.length + 2 := by rw [mk_size]; rfl
  rw [hz, if_pos (by omega), if_pos (by omega), hb, r01_Read.j0]
  by_cases hc : c = 45
  ·
   subst hc
   have es : strip (45 :: e :: r) = e :: r := rfl
   have hb2 : bt (mk (e :: r)) 0 = (e.toNat : Int) := bt_mk (l := e :: r) (i := 0) (by simp)
   have hz2 : (mk (e :: r)).size = r.length + 1 := by rw [mk_size]; rfl
   rw [if_pos (by rfl), hz, if_pos (by omega)]
   have ed : (mk (45 :: e :: r)).extract 1 (r.length + 2) = mk (e :: r) := by rw [← hz, mk_from]; rfl
   rw [ed, r01_Read.j1, hz2, if_neg (by omega), if_pos (by omega), hb2, hz, es]
   by_cases he : e = 48
   ·
    subst he
    rw [if_pos (by rfl), decide_eq_true (by omega), r01_Read.j2, if_pos rfl, if_neg]
    intro g
    have := g.1.2.1 rfl
    exact g.2 (by rw [this])
   ·
    have he' : ¬ (e.toNat : Int) = 48 := fun g => he (byte_eq.mp (show (e.toNat : Int) = ((48 : UInt8).toNat : Int) from g))
    rw [if_neg he', r01_Read.j2, if_neg (by decide), l0_at _ hz (by simp only [List.length_cons] at hl ⊢; omega) (by omega)]
    congr 1
    by_cases ha : ∀ x ∈ e :: r, Dig x
    ·
     rw [if_pos ha, if_pos ⟨⟨by simp, fun g => absurd (by simpa using g) he, ha⟩, fun g => by injection g with _ g; injection g with g _; exact he g⟩, decide_eq_true (by simp only [List.length_cons]; omega)]
     rfl
    ·
     rw [if_neg ha, if_neg (fun g => ha g.1.2.2)]
  ·
   have es : strip (c :: e :: r) = c :: e :: r := by unfold strip; rw [if_neg (by simpa using hc)]
   have hc' : ((c.toNat : Int) == 45) = false := beq_eq_false_iff_ne.mpr fun g => hc (byte_eq.mp (show (c.toNat : Int) = ((45 : UInt8).toNat : Int) from g))
   rw [hc', if_neg (by decide), r01_Read.j1, hz, if_neg (by omega), if_pos (by omega), hb, es]
   by_cases he : c = 48
   ·
    subst he
    rw [if_pos (by rfl), decide_eq_true (by omega), r01_Read.j2, if_pos rfl, if_neg]
    intro g
    have := g.1.2.1 rfl
    simp at this
   ·
    have he' : ¬ (c.toNat : Int) = 48 := fun g => he (byte_eq.mp (show (c.toNat : Int) = ((48 : UInt8).toNat : Int) from g))
    rw [if_neg he', r01_Read.j2, if_neg (by decide), l0_at _ hz (by simp only [List.length_cons] at hl ⊢; omega) (by omega)]
    congr 1
    by_cases ha : ∀ x ∈ c :: e :: r, Dig x
    ·
     rw [if_pos ha, if_pos ⟨⟨by simp, fun g => absurd (by simpa using g) he, ha⟩, fun g => by injection g with g _; exact hc g⟩, decide_eq_false (by simp only [List.length_cons]; omega), decide_eq_false (show ¬ (c :: e :: r).head? = some 45 by simpa using hc)]
    ·
     rw [if_neg ha, if_neg (fun g => ha g.1.2.2)]
end Go.Proofs.YtkplklfmhieoaaaGreatDoor.Pure
end
section
namespace Go.Proofs.YtkplklfmhieoaaaGreatDoor.Pure
open Go.RowKit Go.Proofs.YtkplklfmhieoaaaGreatDoor.X Go.Proofs.YtkplklfmhieoaaaGreatDoorW.PrintWords Go.Proofs.YtkplklfmhieoaaaGreatDoorW.PrintLast Go.Proofs.YtkplklfmhieoaaaGreatDoorW.PrintMore Go.Proofs.YtkplklfmhieoaaaGreatDoor.Aid Go.Proofs.YtkplklfmhieoaaaGreatDoor.Bytes
set_option linter.unusedVariables false
theorem rsplit_l0 (c : UInt8) {l : T} (hl : l.length ≤ 20000) (d : Nat) : ∀ (i from_ k : Nat) (acc : List T), i + d = l.length → from_ ≤ i → d < k → acc.length ≤ i →
 r02_Split.l0 k (mk l) (c.toNat : Int) (acc.map mk) (from_ : Int) (i : Int) = some ((acc ++ glue ((l.drop from_).take (i - from_)) (spl c (l.drop i))).map mk) := by
 induction d with
 | zero =>
  intro i f k acc hi hf hk ha
  obtain ⟨k, rfl⟩ := succ_of hk
  simp only [r02_Split.l0]
  have he := mk_from l f
  rw [mk_size] at he
  rw [mk_size, if_neg (by omega), if_pos (by omega), if_pos (by omega), List.length_map, if_pos (by omega), Int.toNat_natCast, he, List.drop_of_length_le (show l.length ≤ i by omega), List.take_of_length_le (by rw [List.length_drop]; omega)]
  simp [spl, glue]
 | succ d ih =>
  intro i f k acc hi hf hk ha
  obtain ⟨k, rfl⟩ := succ_of hk
  have hlt : i < l.length := by omega
  have hd : l.drop i = l[i] :: l.drop (i + 1) := drop_at hlt
  have hm : (acc.map mk) ++ [mk ((l.drop f).take (i - f))] = (acc ++ [(l.drop f).take (i - f)]).map mk := by simp
  have h1 := ih (i + 1) (i + 1) k (acc ++ [(l.drop f).take (i - f)]) (by omega) (Nat.le_refl _) (by omega) (by rw [List.length_append, List.length_singleton]; omega)
  have h2 := ih (i + 1) f k acc (by omega) (by omega) (by omega) (by omega)
  simp only [r02_Split.l0]
  rw [mk_size, if_pos (by omega), if_pos (by omega), bt_mk hlt, w64s (by omega), h2, hd, spl_cons]
  by_cases h : l[i] = c
  ·
   rw [if_pos (byte_eq.mpr h), if_pos h, if_pos (by omega), if_pos (by omega), if_pos (by omega), List.length_map, if_pos (by omega), Int.toNat_natCast, Int.toNat_natCast, mk_extract, hm, h1, Nat.sub_self, List.take_zero, glue_nil (spl_ne c _)]
   simp [glue]
  ·
   rw [if_neg (fun e => h (byte_eq.mp e)), if_neg h, glue_glue]
   have ht : (l.drop f).take (i + 1 - f) = (l.drop f).take (i - f) ++ [l[i]] := by
    have hj : i - f < (l.drop f).length := by rw [List.length_drop]; omega
    rw [show i + 1 - f = (i - f) + 1 by omega, take_at hj, List.getElem_drop]
    simp [show f + (i - f) = i by omega]
   rw [ht]
theorem rsplit_eq (c : UInt8) {l : T} (hl : l.length ≤ 20000) (k : Nat) (hk : 20010 < k) : r02_Split.f k (mk l) (c.toNat : Int) = some ((spl c l).map mk) := by
 have h := rsplit_l0 c hl l.length 0 0 k [] (by omega) (Nat.le_refl _) (by omega) (Nat.le_refl _)
 rw [List.drop_zero, Nat.sub_self, List.take_zero, glue_nil (spl_ne c l)] at h
 exact h
end Go.Proofs.YtkplklfmhieoaaaGreatDoor.Pure
end
section
namespace Go.Proofs.YtkplklfmhieoaaaGreatDoor.Pure
open Go.RowKit Go.Proofs.YtkplklfmhieoaaaGreatDoor.X Go.Proofs.YtkplklfmhieoaaaGreatDoorW.PrintWords Go.Proofs.YtkplklfmhieoaaaGreatDoorW.PrintLast Go.Proofs.YtkplklfmhieoaaaGreatDoorW.PrintMore Go.Proofs.YtkplklfmhieoaaaGreatDoor.Aid Go.Proofs.YtkplklfmhieoaaaGreatDoor.Bytes
set_option linter.unusedVariables false
theorem rvalue_all (c : UInt8) : r26_value.f 20 (c.toNat : Int) = some (hv c) :=
 of_decide_eq_true (byte_all (p := fun c => decide (r26_value.f 20 (c.toNat : Int) = some (hv c)) = true) (by decide +kernel) c)
theorem rvalue_eq (c : UInt8) {k : Nat} (hk : 20 ≤ k) : r26_value.f k (c.toNat : Int) = some (hv c) :=
 at_rounds (g := fun k => r26_value.f k (c.toNat : Int)) (r26_value.mono _) hk (rvalue_all c)
theorem hv_no (c : UInt8) : hexD.contains c = false → hv c = -1 :=
 byte_all (p := fun c => hexD.contains c = false → hv c = -1) (by decide +kernel) c
theorem rbytes_l0 {s : T} (hs : s.length ≤ 100000) {n : Nat} (hn : s.length = 2 * n) (d : Nat) : ∀ (i k : Nat) (acc : List Int), i + d = n → d + 30 < k → acc.length ≤ i →
 r26_bytes.l0 k (mk s) acc ((2 * i : Nat) : Int) = some (if (s.drop (2 * i)).all (fun b => hexD.contains b) = true then (acc ++ prsH (s.drop (2 * i)), true) else ([], false)) := by
 induction d with
 | zero =>
  intro i k acc hi hk ha
  obtain ⟨k, rfl⟩ := succ_of hk
  simp only [r26_bytes.l0]
  rw [mk_size, if_neg (by omega), List.drop_of_length_le (by omega), if_pos (by rfl)]
  show some (acc, true) = some (acc ++ [], true)
  rw [List.append_nil]
 | succ d ih =>
  intro i k acc hi hk ha
  obtain ⟨k, rfl⟩ := succ_of hk
  have h1 : 2 * i < s.length := by omega
  have h2 : 2 * i + 1 < s.length := by omega
  have e2 : wrap64 (((2 * i : Nat) : Int) + 1) = ((2 * i + 1 : Nat) : Int) := w64s (by omega)
  have e3 : wrap64 (((2 * i : Nat) : Int) + 2) = ((2 * (i + 1) : Nat) : Int) := by
   rw [w64 (by omega) (by omega)]
   omega
  simp only [r26_bytes.l0]
  rw [mk_size, if_pos (by omega), if_pos (by omega), e2, e3, bt_mk h1, bt_mk h2, rvalue_eq _ (by omega), rvalue_eq _ (by omega), drop_at h1, drop_at h2, List.all_cons, List.all_cons]
  simp only [Option.bind_some]
  rw [if_pos (by omega), if_pos (by omega)]
  cases c1 : hexD.contains s[2 * i] with
  | false =>
   rw [hv_no _ c1, if_pos (by decide), Bool.false_and, if_neg (by simp)]
  | true =>
   have a1 := (hv_all _ c1).1
   rw [if_neg (by omega), Bool.true_and]
   cases c2 : hexD.contains s[2 * i + 1] with
   | false => rw [hv_no _ c2, if_pos (by decide), Bool.false_and, if_neg (by simp)]
   | true =>
    have a2 := (hv_all _ c2).1
    have e4 : (wrap64 ((wrap64 (16 * hv s[2 * i])) + hv s[2 * i + 1])) % 256 = hv s[2 * i] * 16 + hv s[2 * i + 1] := by
     rw [w64 (a := 16 * hv s[2 * i]) (by omega) (by omega), w64 (by omega) (by omega)]
     omega
    rw [if_neg (by omega), Bool.true_and, if_pos (by omega), e4, ih (i + 1) k _ (by omega) (by omega) (by rw [List.length_append, List.length_singleton]; omega)]
    rw [show 2 * (i + 1) = 2 * i + 1 + 1 by omega, prsH, List.append_assoc]
    rfl
def outR2 : Option (List Int) → List Int × Bool
 | some d => (d, true)
 | none => ([], false)
theorem rbytes_j0t (s : ByteArray) {k : Nat} (hk : 0 < k) : r26_bytes.j0 k s true = some ([], false) := by
 obtain ⟨k, rfl⟩ := succ_of hk
 simp only [r26_bytes.j0]
 rfl
theorem rbytes_eq {s : T} (hs : s.length ≤ 100000) {k : Nat} (hk : 100040 < k) : r26_bytes.f k (mk s) = some (outR2 (dataS s)) := by
 unfold r26_bytes.f dataS
 rw [mk_toList]
 by_cases h1 : s = [45]
 ·
  rw [if_pos h1, if_pos h1]
  rfl
 ·
  rw [if_neg h1, if_neg h1, mk_size]
  by_cases h2 : s = []
  ·
   rw [if_pos (by rw [h2]; rfl), if_pos h2, rbytes_j0t _ (by omega)]
   rfl
  ·
   have h2' : ¬ (s.length : Int) = 0 := fun e => h2 (List.length_eq_zero_iff.1 (by omega))
   rw [if_neg h2', if_neg h2]
   by_cases h3 : s.length % 2 ≠ 0
   ·
    rw [if_pos h3, show (((s.length : Int) % 2) != 0) = true from bne_iff_ne.2 (by omega), rbytes_j0t _ (by omega)]
    rfl
   ·
    obtain ⟨k, rfl⟩ := succ_of hk
    rw [if_neg h3, show (((s.length : Int) % 2) != 0) = false from bne_eq_false_iff_eq.2 (by omega)]
    simp only [r26_bytes.j0]
    rw [if_neg (by simp)]
    have h := rbytes_l0 hs (n := s.length / 2) (by omega) (s.length / 2) 0 k [] (by omega) (by omega) (Nat.zero_le _)
    rw [show ((2 * 0 : Nat) : Int) = 0 from rfl, Nat.mul_zero, List.drop_zero, List.nil_append] at h
    rw [h]
    split <;> rfl
end Go.Proofs.YtkplklfmhieoaaaGreatDoor.Pure
end
section
namespace Go.Proofs.YtkplklfmhieoaaaGreatDoor.Pure
open Go.RowKit Go.Proofs.YtkplklfmhieoaaaGreatDoor.X Go.Proofs.YtkplklfmhieoaaaGreatDoorW.PrintWords Go.Proofs.YtkplklfmhieoaaaGreatDoorW.PrintLast Go.Proofs.YtkplklfmhieoaaaGreatDoorW.PrintMore Go.Proofs.YtkplklfmhieoaaaGreatDoor.Aid Go.Proofs.YtkplklfmhieoaaaGreatDoor.Bytes
set_option linter.unusedVariables false
def outE (L : List T) : Int × Int × List Int × Int := if (evS L).2 = 0 then ((evS L).1.f0, (evS L).1.f1, (evS L).1.f2, 0) else (0, 0, [], (evS L).2)
theorem rone_step {L : List T} (hL : L ≠ []) {i : Nat} (hi : 1 ≤ i ∧ i ≤ 3) (c n : Int) (k : Nat) :
 r26_one.l0 (k + 1) (L.map mk) (i : Int) c n = if L.getD 0 [] = kword (i : Int) then r26_one.l0 k (L.map mk) ((i + 1 : Nat) : Int) (i : Int) n else r26_one.l0 k (L.map mk) ((i + 1 : Nat) : Int) c n := by
 have hl : 0 < L.length := List.length_pos_iff.2 hL
 have e1 : L.getD 0 [] = L[0] := by rw [List.getD_eq_getElem?_getD, List.getElem?_eq_getElem hl]; rfl
 have r1 : rdOf ByteArray.empty (L.map mk) 0 = mk L[0] := rds (L := L) (i := 0) hl
 have hnames : ∃ ns, r26_names.f = some ns ∧ ns.length = 4 ∧ rdOf ByteArray.empty ns (i : Int) = mk (kword (i : Int)) := by
  refine ⟨_, rfl, rfl, ?_⟩
  have h3 : i = 1 ∨ i = 2 ∨ i = 3 := by omega
  rcases h3 with rfl | rfl | rfl <;> rfl
 obtain ⟨ns, hns, hnl, hnr⟩ := hnames
 simp only [r26_one.l0]
 rw [if_pos (by omega), List.length_map, if_pos (by omega), hns]
 simp only [Option.bind_some]
 rw [if_pos (by omega), if_pos (by omega), r1, hnr, mk_toList, mk_toList, w64s (by omega), e1]
theorem rone_end (L : List T) (c n : Int) (k : Nat) : r26_one.l0 (k + 1) (L.map mk) 4 c n = r26_one.j1 k (L.map mk) (if c = 0 then true else badN c L.length) c n := by
 simp only [r26_one.l0]
 rw [if_neg (by omega), List.length_map]
 by_cases h0 : c = 0
 ·
  rw [if_pos h0, if_pos h0]
 ·
  rw [if_neg h0, if_neg h0]
  unfold badN
  by_cases h1 : c = 1
  ·
   rw [if_pos h1, if_pos h1]
   by_cases h2 : L.length = 3
   ·
    rw [if_pos (by omega), show decide (L.length ≠ 3) = false from decide_eq_false (by omega)]
   ·
    rw [if_neg (by omega), show decide (L.length ≠ 3) = true from decide_eq_true h2]
  ·
   rw [if_neg h1, if_neg h1]
   congr 1
   by_cases h2 : L.length = 2
   ·
    rw [show decide (L.length ≠ 2) = false from decide_eq_false (by omega)]
    exact bne_eq_false_iff_eq.2 (by omega)
   ·
    rw [show decide (L.length ≠ 2) = true from decide_eq_true h2]
    exact bne_iff_ne.2 (by omega)
theorem rone_kind {L : List T} (hL : L ≠ []) (k : Nat) : r26_one.l0 (k + 4) (L.map mk) 1 0 0 = r26_one.j1 k (L.map mk) (if kd (L.getD 0 []) = 0 then true else badN (kd (L.getD 0 [])) L.length) (kd (L.getD 0 [])) 0 := by
 have s1 := rone_step hL (i := 1) (by omega) 0 0 (k + 3)
 have s2 := fun c => rone_step hL (i := 2) (by omega) c 0 (k + 2)
 have s3 := fun c => rone_step hL (i := 3) (by omega) c 0 (k + 1)
 have s4 := fun c => rone_end L c 0 k
 have w1 : kword ((1 : Nat) : Int) = chunkW := rfl
 have w2 : kword ((2 : Nat) : Int) = tickW := rfl
 have w3 : kword ((3 : Nat) : Int) = pickW := rfl
 simp only [w1] at s1
 simp only [w2] at s2
 simp only [w3] at s3
 have q : ((3 + 1 : Nat) : Int) = 4 := rfl
 simp only [q, s4] at s3
 have q2 : ((2 + 1 : Nat) : Int) = ((3 : Nat) : Int) := rfl
 have q1 : ((1 + 1 : Nat) : Int) = ((2 : Nat) : Int) := rfl
 simp only [q2, s3] at s2
 simp only [q1, s2] at s1
 refine s1.trans ?_
 generalize L.getD 0 [] = x
 unfold kd
 by_cases h1 : x = chunkW
 ·
  rw [if_pos h1, if_pos h1, if_neg (by rw [h1]; decide), if_neg (by rw [h1]; decide)]
  rfl
 ·
  rw [if_neg h1, if_neg h1]
  by_cases h2 : x = tickW
  ·
   rw [if_pos h2, if_pos h2, if_neg (by rw [h2]; decide)]
   rfl
  ·
   rw [if_neg h2, if_neg h2]
   by_cases h3 : x = pickW
   ·
    rw [if_pos h3, if_pos h3]
    rfl
   ·
    rw [if_neg h3, if_neg h3]
    simp
theorem rone_eq {s : T} (hs : s.length ≤ 20000) {k : Nat} (hk : 100100 < k) : r26_one.f k (mk s) = some (outE (spl 32 s)) := by
 have hsplit := rsplit_eq 32 hs k (by omega)
 rw [show ((32 : UInt8).toNat : Int) = 32 from rfl] at hsplit
 have hp : ∀ p ∈ spl 32 s, p.length ≤ 20000 := fun p hp2 => Nat.le_trans (spl_short 32 s p hp2) hs
 have hL := spl_ne 32 s
 unfold r26_one.f
 rw [hsplit]
 simp only [Option.bind_some]
 generalize spl 32 s = L at hp hL
 obtain ⟨k, rfl⟩ : ∃ m, k = (m + 3) + 4 := ⟨k - 7, by omega⟩
 rw [rone_kind hL]
 unfold outE evS
 have hr := kd_range (L.getD 0 [])
 generalize hkd : kd (L.getD 0 []) = a at hr ⊢
 simp only [r26_one.j1, List.length_map]
 by_cases h0 : a = 0
 ·
  rw [if_pos h0, if_pos h0]
  rfl
 ·
  rw [if_neg h0, if_neg h0]
  by_cases hb : badN a L.length = true
  ·
   rw [if_pos hb, if_pos hb]
   rfl
  ·
   rw [if_neg hb, if_neg hb]
   have h13 : 1 ≤ a ∧ a ≤ 3 := by omega
   have hlen : 1 < L.length ∧ (a = 1 → 2 < L.length) := by
    unfold badN at hb
    by_cases h1 : a = 1
    ·
     rw [if_pos h1, decide_eq_true_eq] at hb
     omega
    ·
     rw [if_neg h1, decide_eq_true_eq] at hb
     omega
   have e1 : L.getD 1 [] = L[1] := by rw [List.getD_eq_getElem?_getD, List.getElem?_eq_getElem hlen.1]; rfl
   have r1 : rdOf ByteArray.empty (L.map mk) 1 = mk L[1] := rds (L := L) (i := 1) hlen.1
   have hmost : r26_most.f a = some (kmost a) := by
    have h3 : a = 1 ∨ a = 2 ∨ a = 3 := by omega
    rcases h3 with rfl | rfl | rfl <;> rfl
   rw [if_pos (by omega), r1, rread_eq (hp _ (List.getElem_mem hlen.1)) (by omega), e1, hmost]
   simp only [Option.bind_some]
   by_cases h2 : (readS L[1]).2 = 0
   ·
    rw [if_pos h2, if_pos h2]
    by_cases h3 : (readS L[1]).1 < 0
    ·
     rw [if_pos h3, if_pos h3]
     simp only [r26_one.j2, r26_one.j3]
     rfl
    ·
     rw [if_neg h3, if_neg h3]
     by_cases h4 : (readS L[1]).1 > kmost a
     ·
      rw [if_pos h4, decide_eq_true h4]
      simp only [r26_one.j2, r26_one.j3]
      rfl
     ·
      rw [if_neg h4, decide_eq_false h4]
      simp only [r26_one.j2, r26_one.j3]
      rw [if_neg (by decide), if_pos h2]
      by_cases h5 : a = 1
      ·
       have hl2 := hlen.2 h5
       have e2 : L.getD 2 [] = L[2] := by rw [List.getD_eq_getElem?_getD, List.getElem?_eq_getElem hl2]; rfl
       have r2 : rdOf ByteArray.empty (L.map mk) 2 = mk L[2] := rds (L := L) (i := 2) hl2
       rw [if_pos h5, if_pos h5, List.length_map, if_pos (by omega), r2, rbytes_eq (Nat.le_trans (hp _ (List.getElem_mem hl2)) (by omega)) (by omega), e2]
       simp only [Option.bind_some]
       subst h5
       cases dataS L[2] with
       | none => rfl
       | some d => rfl
      ·
       rw [if_neg h5, if_neg h5]
       rfl
   ·
    rw [if_neg h2, if_neg h2]
    simp only [r26_one.j2, r26_one.j3]
    rw [if_neg (by decide), if_neg h2, if_neg h2]
theorem rline (s : T) (hs : s.length ≤ 90000000) (acc : List Ev) (f e : Nat) (he : e ≤ s.length) (d : Nat) : ∀ (i m : Nat), i + d = e → d < m → (∀ j, (h : j < s.length) → i ≤ j → j < e → s[j] ≠ 10) → (∀ h : e < s.length, s[e] = 10) →
 r26_Parse.l1 m (mk s) acc (f : Int) (i : Int) = r26_Parse.j2 (m - d - 1) (mk s) acc (f : Int) (e : Int) := by
 induction d with
 | zero =>
  intro i m hi hm hn hx
  obtain ⟨m, rfl⟩ := succ_of hm
  obtain rfl : i = e := by omega
  simp only [r26_Parse.l1]
  rw [mk_size]
  by_cases h : i < s.length
  ·
   rw [if_pos (by omega), if_pos (by omega), bt_mk h, hx h, if_pos (show ((10 : UInt8).toNat : Int) = 10 from rfl)]
   rfl
  ·
   rw [if_neg (by omega)]
   rfl
 | succ d ih =>
  intro i m hi hm hn hx
  obtain ⟨m, rfl⟩ := succ_of hm
  have hlt : i < s.length := by omega
  have hne : ¬ (s[i].toNat : Int) = 10 := fun g => hn i hlt (Nat.le_refl _) (by omega) (byte_eq.mp (show (s[i].toNat : Int) = ((10 : UInt8).toNat : Int) from g))
  simp only [r26_Parse.l1]
  rw [mk_size, if_pos (by omega), if_pos (by omega), bt_mk hlt, if_neg hne, w64s (by omega), ih (i + 1) m (by omega) (by omega) (fun j h h1 h2 => hn j h (by omega) h2) hx]
  congr 1
  omega
theorem rparse_l0 (s : T) (hs : s.length ≤ 20000) (n : Nat) : ∀ (f k : Nat) (acc : List Ev), f ≤ s.length → s.length - f ≤ n → 3 * (s.length - f) + 100200 < k → acc.length ≤ 2000 →
 r26_Parse.l0 k (mk s) acc (f : Int) = some (prsL (spl 10 (s.drop f)) acc) := by
 induction n with
 | zero =>
  intro f k acc hf hn hk ha
  obtain ⟨k, rfl⟩ := succ_of hk
  simp only [r26_Parse.l0]
  rw [mk_size, if_neg (by omega), List.drop_of_length_le (by omega)]
  rfl
 | succ n ih =>
  intro f k acc hf hn hk ha
  obtain ⟨k, rfl⟩ := succ_of hk
  simp only [r26_Parse.l0]
  rw [mk_size]
  by_cases h0 : f = s.length
  ·
   rw [if_neg (by omega), List.drop_of_length_le (by omega)]
   rfl
  ·
   have hne : s.drop f ≠ [] := fun e => by
    have := congrArg List.length e
    rw [List.length_drop, List.length_nil] at this
    omega
   have ew : wrap64 ((acc.length : Int) + 1) = (acc.length : Int) + 1 := by rw [w64 (by omega) (by omega)]
   rw [if_pos (by omega)]
   rcases first_at 10 (s.drop f) with h | ⟨a, v, e, h⟩
   ·
    have e0 : ¬ (([] : List T) = [] ∧ s.drop f = []) := fun h => hne h.2
    rw [spl_no 10 _ h, prsL_cons, if_neg e0]
    by_cases h1 : acc.length = 2000
    ·
     rw [if_pos (by omega), if_pos (by omega), h1]
     rfl
    ·
     rw [if_neg (by omega), if_neg (by omega), if_pos rfl]
     have hno : ∀ j, (hj : j < s.length) → f ≤ j → j < s.length → s[j] ≠ 10 := fun j hj h2 _ e10 => by
      apply h
      rw [← e10]
      have hm : (s.drop f)[j - f]'(by rw [List.length_drop]; omega) = s[j] := by
       rw [List.getElem_drop]
       simp [show f + (j - f) = j by omega]
      rw [← hm]
      exact List.getElem_mem _
     rw [rline s (by omega) acc f s.length (Nat.le_refl _) (s.length - f) f k (by omega) (by omega) hno (fun h => absurd h (by omega))]
     obtain ⟨m, hm⟩ : ∃ m, k - (s.length - f) - 1 = m + 1 := ⟨k - (s.length - f) - 2, by omega⟩
     rw [hm]
     simp only [r26_Parse.j2]
     rw [mk_size, if_pos rfl, ew]
   ·
    have hlen : s.length = f + a.length + 1 + v.length := by
     have := congrArg List.length e
     rw [List.length_drop, List.length_append, List.length_cons] at this
     omega
    have hsp : spl 10 (s.drop f) = a :: spl 10 v := by rw [e, spl_app 10 a v h]
    have hnev : spl 10 v ≠ [] := spl_ne 10 v
    have hv : s.drop (f + a.length + 1) = v := by
     rw [show f + a.length + 1 = f + (a.length + 1) by omega, ← List.drop_drop, e, show a ++ 10 :: v = (a ++ [10]) ++ v by simp, List.drop_left' (by simp)]
    have ha2 : (s.drop f).take (f + a.length - f) = a := by
     rw [show f + a.length - f = a.length by omega, e, List.take_left]
    have hat : ∀ j, (hj : j < s.length) → f ≤ j → s[j] = (a ++ 10 :: v)[j - f]'(by rw [← e, List.length_drop]; omega) := fun j hj h2 => by
     have hm : (s.drop f)[j - f]'(by rw [List.length_drop]; omega) = s[j] := by
      rw [List.getElem_drop]
      simp [show f + (j - f) = j by omega]
     rw [← hm]
     simp only [e]
    have hno : ∀ j, (hj : j < s.length) → f ≤ j → j < f + a.length → s[j] ≠ 10 := fun j hj h2 h3 e10 => by
     rw [hat j hj h2, List.getElem_append_left (by omega)] at e10
     exact h (by rw [← e10]; exact List.getElem_mem _)
    have hyes : ∀ hj : f + a.length < s.length, s[f + a.length] = 10 := fun hj => by
     rw [hat _ hj (by omega), List.getElem_append_right (by omega)]
     simp
    have e0 : ¬ (spl 10 v = [] ∧ a = []) := fun h => hnev h.1
    rw [hsp, prsL_cons, if_neg e0]
    by_cases h1 : acc.length = 2000
    ·
     rw [if_pos (by omega), if_pos (by omega), h1]
     rfl
    ·
     rw [if_neg (by omega), if_neg (by omega), if_neg hnev, rline s (by omega) acc f (f + a.length) (by omega) a.length f k rfl (by omega) hno hyes]
     obtain ⟨m, hm⟩ : ∃ m, k - a.length - 1 = m + 1 := ⟨k - a.length - 2, by omega⟩
     rw [hm]
     simp only [r26_Parse.j2]
     rw [mk_size, if_neg (by omega), if_pos (by omega), if_pos (by omega), if_pos (by omega), Int.toNat_natCast, Int.toNat_natCast, mk_extract, ha2, rone_eq (by omega) (by omega), ew]
     simp only [Option.bind_some]
     unfold outE
     by_cases h2 : (evS (spl 32 a)).2 = 0
     ·
      rw [if_pos h2, if_pos h2, if_pos rfl, if_pos (by omega), w64s (by omega), ih (f + a.length + 1) m _ (by omega) (by omega) (by omega) (by rw [List.length_append, List.length_singleton]; omega), hv]
     ·
      rw [if_neg h2, if_neg h2, if_neg h2]
theorem rparse_eq {s : T} (hs : s.length ≤ 20000) {k : Nat} (hk : 200000 < k) : r26_Parse.f k (mk s) = some (prsL (spl 10 s) []) := by
 have h := rparse_l0 s hs s.length 0 k [] (Nat.zero_le _) (by omega) (by omega) (Nat.zero_le _)
 rw [List.drop_zero] at h
 exact h
end Go.Proofs.YtkplklfmhieoaaaGreatDoor.Pure
end
section
namespace Go.Proofs.YtkplklfmhieoaaaGreatDoor.Pure
open Go.RowKit Go.Proofs.YtkplklfmhieoaaaGreatDoor.X Go.Proofs.YtkplklfmhieoaaaGreatDoorW.PrintWords Go.Proofs.YtkplklfmhieoaaaGreatDoorW.PrintLast Go.Proofs.YtkplklfmhieoaaaGreatDoorW.PrintMore Go.Proofs.YtkplklfmhieoaaaGreatDoor.Aid Go.Proofs.YtkplklfmhieoaaaGreatDoor.Bytes
set_option linter.unusedVariables false
theorem rself_l0 {l : List Ev} (hn : l.length ≤ 100000) (d : Nat) : ∀ (i k : Nat), i + d = l.length → d < k → r26_Same.l0 k l l (i : Int) = some true := by
 induction d with
 | zero =>
  intro i k hi hk
  obtain ⟨k, rfl⟩ := succ_of hk
  simp only [r26_Same.l0]
  rw [if_neg (by omega)]
 | succ d ih =>
  intro i k hi hk
  obtain ⟨k, rfl⟩ := succ_of hk
  simp only [r26_Same.l0]
  rw [if_pos (by omega), if_pos (by omega), if_pos (by omega), if_pos trivial, if_pos trivial, if_pos trivial, w64s (by omega)]
  exact ih (i + 1) k (by omega) (by omega)
theorem rself_eq {l : List Ev} (hn : l.length ≤ 100000) {k : Nat} (hk : 100000 < k) : r26_Same.f k l l = some true := by
 unfold r26_Same.f
 rw [if_pos rfl]
 exact rself_l0 hn l.length 0 k (by omega) (by omega)
end Go.Proofs.YtkplklfmhieoaaaGreatDoor.Pure
end
section
namespace Go.Proofs.YtkplklfmhieoaaaGreatDoor.Pure
open Go.RowKit Go.Proofs.YtkplklfmhieoaaaGreatDoor.X Go.Proofs.YtkplklfmhieoaaaGreatDoorW.PrintWords Go.Proofs.YtkplklfmhieoaaaGreatDoorW.PrintLast Go.Proofs.YtkplklfmhieoaaaGreatDoorW.PrintMore Go.Proofs.YtkplklfmhieoaaaGreatDoor.Aid Go.Proofs.YtkplklfmhieoaaaGreatDoor.Bytes
set_option linter.unusedVariables false
theorem alive_eq (k : Nat) (hk : 60 ≤ k) : w26_alive.f k = some true :=
 at_rounds (g := fun k => w26_alive.f k) w26_alive.mono hk (by decide +kernel)
theorem prs_short : ∀ {L : List T} {acc : List Ev}, acc.length ≤ 2000 → (prsL L acc).1.length ≤ 2000
 | [], acc, h => h
 | x :: r, acc, h => by
  rw [prsL_cons]
  split
  ·
   exact h
  ·
   split
   ·
    exact Nat.zero_le _
   ·
    split
    ·
     exact Nat.zero_le _
    ·
     split
     ·
      exact prs_short (by rw [List.length_append, List.length_singleton]; omega)
     ·
      exact Nat.zero_le _
theorem ScriptParses : w26_ScriptParses.Pure := by
 intro s0 _
 obtain ⟨K, hK⟩ : ∃ K : Nat, K = 300000 := ⟨_, rfl⟩
 refine ⟨K, ?_⟩
 obtain ⟨s, rfl⟩ : ∃ s, s0 = mk s := ⟨s0.data.toList, (mk_eta s0).symm⟩
 unfold w26_ScriptParses.f
 rw [alive_eq K (by omega)]
 simp only [Option.bind_some, if_true]
 rw [mk_size]
 by_cases h : s.length > 20000
 ·
  rw [if_pos (by omega)]
 ·
  have hp : ∀ p ∈ spl 10 s, p.length ≤ 20000 := fun p hp => Nat.le_trans (spl_short 10 s p hp) (by omega)
  rw [if_neg (by omega), parse_eq (by omega) hp (by omega), rparse_eq (by omega) (by omega)]
  simp only [Option.bind_some]
  rw [rself_eq (Nat.le_trans (prs_short (Nat.zero_le _)) (by omega)) (by omega)]
  simp only [Option.bind_some, if_true, beq_self_eq_true]
end Go.Proofs.YtkplklfmhieoaaaGreatDoor.Pure
end
