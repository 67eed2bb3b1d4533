/- Plain facts on what the printed functions compute, joined; each says its conditions. -/
import Derived.Test.YtkplklfmhieoaaaGreatDoorM1
import Derived.Test.YtkplklfmhieoaaaGreatDoorM4
import Derived.Lib.ItoaNum
import Derived.Test.YtkplklfmhieoaaaGreatDoorM6
import Derived.Test.YtkplklfmhieoaaaGreatDoorM9
import Derived.Test.YtkplklfmhieoaaaGreatDoorM7
import Derived.Test.YtkplklfmhieoaaaGreatDoorM5
section
namespace Go.Proofs.YtkplklfmhieoaaaGreatDoor.Pure
open Go.RowKit Go.Proofs.YtkplklfmhieoaaaGreatDoor.X Go.Proofs.YtkplklfmhieoaaaGreatDoorW.PrintWords Go.Proofs.YtkplklfmhieoaaaGreatDoorW.PrintLast Go.Proofs.YtkplklfmhieoaaaGreatDoorW.PrintMore Go.Proofs.YtkplklfmhieoaaaGreatDoor.Aid Go.Proofs.YtkplklfmhieoaaaGreatDoor.Bytes
set_option linter.unusedVariables false
abbrev T := List UInt8
def bl (s : ByteArray) : T := s.data.toList
theorem join_eq {L : List T} {s : T} (hn : L.length ≤ 100000) (hj : (Lib.join L s).length ≤ 100000000) : word_Join.f (mk s) (L.map mk) = some (mk (Lib.join L s)) := by
 unfold word_Join.f strings_Join.f
 rw [List.length_map, map_mk, mk_data, if_pos ⟨by omega, by omega⟩]
 rfl
def tot (L : List T) : Nat := L.flatten.length
theorem tot_cons (x : T) (L : List T) : tot (x :: L) = x.length + tot L := by simp [tot]
theorem tail_cons (s x : T) (L : List T) : Lib.joinTail s (x :: L) = s ++ x ++ Lib.joinTail s L := by simp [Lib.joinTail]
theorem tail_len (s : T) (L : List T) : (Lib.joinTail s L).length = L.length * s.length + tot L := by
 induction L with
 | nil => simp [Lib.joinTail, tot]
 | cons x L ih =>
  have : Lib.joinTail s (x :: L) = s ++ x ++ Lib.joinTail s L := by simp [Lib.joinTail]
  rw [this, tot_cons, List.length_append, List.length_append, ih, List.length_cons, Nat.succ_mul]
  omega
theorem join_len (s : T) (L : List T) : (Lib.join L s).length ≤ L.length * s.length + tot L := by
 cases L with
 | nil => simp [Lib.join_nil]
 | cons x L =>
  rw [Lib.join_cons, List.length_append, tail_len, tot_cons, List.length_cons, Nat.succ_mul]
  omega
end Go.Proofs.YtkplklfmhieoaaaGreatDoor.Pure
end
section
namespace Go.Proofs.YtkplklfmhieoaaaGreatDoor.Pure
open Go.RowKit Go.Proofs.YtkplklfmhieoaaaGreatDoor.X Go.Proofs.YtkplklfmhieoaaaGreatDoorW.PrintWords Go.Proofs.YtkplklfmhieoaaaGreatDoorW.PrintLast Go.Proofs.YtkplklfmhieoaaaGreatDoorW.PrintMore Go.Proofs.YtkplklfmhieoaaaGreatDoor.Aid Go.Proofs.YtkplklfmhieoaaaGreatDoor.Bytes
set_option linter.unusedVariables false
def I64 (a : Int) : Prop := -9223372036854775808 ≤ a ∧ a ≤ 9223372036854775807
theorem d_small {u : Nat} (h : u < 10) : Lib.decDigits u = [UInt8.ofNat (48 + u)] := by rw [Lib.decDigits, dif_pos h]
theorem d_big {u : Nat} (h : ¬ u < 10) : Lib.decDigits u = Lib.decDigits (u / 10) ++ [UInt8.ofNat (48 + u % 10)] := by rw [Lib.decDigits, dif_neg h]
theorem ofNat_dig {d : Nat} (h : d < 10) : (UInt8.ofNat (48 + d)).toNat = 48 + d := by
 rw [UInt8.toNat_ofNat']
 omega
theorem format_eq {n : Int} (h : I64 n) : sat_Number.f n = some (mk (Lib.itoa n)) := by
 unfold sat_Number.f strconv_FormatInt.f
 rw [if_pos ⟨rfl, h.1, h.2⟩, Option.bind_some]
 rfl
def sgn (n : Int) : T := if n < 0 then [45] else []
theorem itoa_sgn (n : Int) : Lib.itoa n = sgn n ++ Lib.decDigits n.natAbs := by
 unfold Lib.itoa sgn
 by_cases h : n < 0
 ·
  rw [if_pos h, if_pos h]; rfl
 ·
  rw [if_neg h, if_neg h, show n.toNat = n.natAbs by omega]; rfl
theorem itoa_len {n : Int} (h : I64 n) : (Lib.itoa n).length ≤ 100 := by
 unfold I64 at h
 have h20 : n.natAbs < 10 ^ (20 + 1) := by
  have : (10 : Nat) ^ 21 = 1000000000000000000000 := by decide
  omega
 have g : ∀ (d u : Nat), u < 10 ^ (d + 1) → (Lib.decDigits u).length ≤ d + 1 := by
  intro d
  induction d with
  | zero => intro u hu; rw [d_small (by simpa using hu)]; simp
  | succ d ih =>
   intro u hu
   by_cases h : u < 10
   ·
    rw [d_small h]; simp
   ·
    rw [d_big h, List.length_append, List.length_singleton]
    have := ih (u / 10) (by rw [Nat.pow_succ] at hu; omega)
    omega
 have := g 20 _ h20
 rw [itoa_sgn, List.length_append]
 unfold sgn
 split <;> simp <;> omega
end Go.Proofs.YtkplklfmhieoaaaGreatDoor.Pure
end
section
namespace Go.Proofs.YtkplklfmhieoaaaGreatDoor.Pure
open Go.RowKit Go.Proofs.YtkplklfmhieoaaaGreatDoor.X Go.Proofs.YtkplklfmhieoaaaGreatDoorW.PrintWords Go.Proofs.YtkplklfmhieoaaaGreatDoorW.PrintLast Go.Proofs.YtkplklfmhieoaaaGreatDoorW.PrintMore Go.Proofs.YtkplklfmhieoaaaGreatDoor.Aid Go.Proofs.YtkplklfmhieoaaaGreatDoor.Bytes
set_option linter.unusedVariables false
abbrev Ev := S37
theorem rdEv {l : List Ev} {i : Nat} (h : i < l.length) : rd_T37 l (i : Int) = l[i] := getD_at h _
def chunkW : T := [99, 104, 117, 110, 107]
def tickW : T := [116, 105, 99, 107]
def pickW : T := [112, 105, 99, 107]
def kword (a : Int) : T := if a = 1 then chunkW else if a = 2 then tickW else pickW
def kmost (a : Int) : Int := if a = 1 then 3 else 1000000000000
theorem of_eq (a : Int) : script_of.f a = some (if 1 ≤ a ∧ a ≤ 3 then (mk (kword a), kmost a, decide (a = 1), true) else (mk [], 0, false, false)) := by
 unfold script_of.f script_kinds.f
 simp only [Option.bind_some]
 by_cases h1 : a < 1
 ·
  rw [if_pos h1, if_neg (by omega)]
  rfl
 ·
  rw [if_neg h1]
  by_cases h2 : a > 3
  ·
   rw [if_pos (by simpa using h2), if_neg (by omega)]
   rfl
  ·
   rw [if_neg (by simpa using h2), if_pos (show 1 ≤ a ∧ a ≤ 3 by omega)]
   have h3 : a = 1 ∨ a = 2 ∨ a = 3 := by omega
   have w1 : wrap64 (1 - 1) = 0 := w64 (a := 1 - 1) (by omega) (by omega)
   have w2 : wrap64 (2 - 1) = 1 := w64 (a := 2 - 1) (by omega) (by omega)
   have w3 : wrap64 (3 - 1) = 2 := w64 (a := 3 - 1) (by omega) (by omega)
   rcases h3 with rfl | rfl | rfl
   ·
    rw [w1]
    rfl
   ·
    rw [w2]
    rfl
   ·
    rw [w3]
    rfl
def mayE (e : Ev) : Bool := decide (1 ≤ e.f0 ∧ e.f0 ≤ 3) && (decide (0 ≤ e.f1) && (decide (e.f1 ≤ kmost e.f0) && (decide (e.f0 = 1) || decide (e.f2 = []))))
theorem may_eq (e : Ev) : script_may.f e.f0 e.f1 e.f2 = some (mayE e) := by
 unfold script_may.f mayE
 rw [of_eq]
 simp only [Option.bind_some]
 by_cases h : 1 ≤ e.f0 ∧ e.f0 ≤ 3
 ·
  rw [if_pos h, decide_eq_true h, Bool.true_and]
  simp only [if_true]
  by_cases h1 : e.f1 ≥ 0
  ·
   rw [if_pos h1, decide_eq_true (show 0 ≤ e.f1 from h1), Bool.true_and]
   by_cases h2 : e.f1 ≤ kmost e.f0
   ·
    rw [if_pos h2, decide_eq_true h2, Bool.true_and]
    by_cases h3 : e.f0 = 1
    ·
     rw [if_pos (decide_eq_true h3), decide_eq_true h3, Bool.true_or]
    ·
     rw [if_neg (by simpa using h3), decide_eq_false h3, Bool.false_or]
     congr 1
     cases e.f2 with
     | nil => rfl
     | cons x l =>
      rw [decide_eq_false (by simp)]
      exact beq_eq_false_iff_ne.2 (by rw [List.length_cons]; omega)
   ·
    rw [if_neg h2, decide_eq_false h2, Bool.false_and]
  ·
   rw [if_neg h1, decide_eq_false (show ¬ 0 ≤ e.f1 from h1), Bool.false_and]
 ·
  rw [if_neg h, decide_eq_false h, Bool.false_and]
  rfl
theorem may_iff (e : Ev) : mayE e = true ↔ (1 ≤ e.f0 ∧ e.f0 ≤ 3) ∧ 0 ≤ e.f1 ∧ e.f1 ≤ kmost e.f0 ∧ (e.f0 = 1 ∨ e.f2 = []) := by
 unfold mayE
 simp only [Bool.and_eq_true, Bool.or_eq_true, decide_eq_true_eq]
def GE (e : Ev) : Prop := I64 e.f1 ∧ (∀ c ∈ e.f2, 0 ≤ c ∧ c < 256) ∧ e.f2.length ≤ 20000
end Go.Proofs.YtkplklfmhieoaaaGreatDoor.Pure
end
section
namespace Go.Proofs.YtkplklfmhieoaaaGreatDoor.Pure
open Go.RowKit Go.Proofs.YtkplklfmhieoaaaGreatDoor.X Go.Proofs.YtkplklfmhieoaaaGreatDoorW.PrintWords Go.Proofs.YtkplklfmhieoaaaGreatDoorW.PrintLast Go.Proofs.YtkplklfmhieoaaaGreatDoorW.PrintMore Go.Proofs.YtkplklfmhieoaaaGreatDoor.Aid Go.Proofs.YtkplklfmhieoaaaGreatDoor.Bytes
set_option linter.unusedVariables false
end Go.Proofs.YtkplklfmhieoaaaGreatDoor.Pure
end
section
namespace Go.Proofs.YtkplklfmhieoaaaGreatDoor.Pure
open Go.RowKit Go.Proofs.YtkplklfmhieoaaaGreatDoor.X Go.Proofs.YtkplklfmhieoaaaGreatDoorW.PrintWords Go.Proofs.YtkplklfmhieoaaaGreatDoorW.PrintLast Go.Proofs.YtkplklfmhieoaaaGreatDoorW.PrintMore Go.Proofs.YtkplklfmhieoaaaGreatDoor.Aid Go.Proofs.YtkplklfmhieoaaaGreatDoor.Bytes
set_option linter.unusedVariables false
def hexD : T := [48, 49, 50, 51, 52, 53, 54, 55, 56, 57, 97, 98, 99, 100, 101, 102]
def hexC (c : Int) : T := [hexD.getD (c.toNat / 16) 0, hexD.getD (c.toNat % 16) 0]
def hexL (l : List Int) : T := (l.map hexC).flatten
theorem hexL_cons (c : Int) (l : List Int) : hexL (c :: l) = hexC c ++ hexL l := rfl
theorem hexL_len : ∀ l : List Int, (hexL l).length = 2 * l.length
 | [] => rfl
 | c :: l => by
  rw [hexL_cons, List.length_append, hexL_len l, List.length_cons]
  have : (hexC c).length = 2 := rfl
  omega
def hx (l : List Int) : T := if l = [] then [45] else hexL l
def Byt (l : List Int) : Prop := ∀ c ∈ l, 0 ≤ c ∧ c < 256
theorem hex_eq {l : List Int} (hb : Byt l) (hl : l.length ≤ 100000) : script_hex.f l = some (mk (hx l)) := by
 unfold script_hex.f hx
 cases l with
 | nil => rfl
 | cons c l =>
  rw [if_neg (by simp), if_pos ⟨by omega, List.all_eq_true.2 (fun x hx => decide_eq_true (hb x hx))⟩, if_neg (by simp)]
  rfl
def hv (c : UInt8) : Int := Lib.indexByte hexD c
end Go.Proofs.YtkplklfmhieoaaaGreatDoor.Pure
end
section
namespace Go.Proofs.YtkplklfmhieoaaaGreatDoor.Pure
open Go.RowKit Go.Proofs.YtkplklfmhieoaaaGreatDoor.X Go.Proofs.YtkplklfmhieoaaaGreatDoorW.PrintWords Go.Proofs.YtkplklfmhieoaaaGreatDoorW.PrintLast Go.Proofs.YtkplklfmhieoaaaGreatDoorW.PrintMore Go.Proofs.YtkplklfmhieoaaaGreatDoor.Aid Go.Proofs.YtkplklfmhieoaaaGreatDoor.Bytes
set_option linter.unusedVariables false
def wordsE (e : Ev) : List T := if e.f0 = 1 then [kword e.f0, Lib.itoa e.f1, hx e.f2] else [kword e.f0, Lib.itoa e.f1]
def lineT (e : Ev) : T := Lib.join (wordsE e) [32]
def textT (l : List Ev) : T := (l.map fun e => lineT e ++ [10]).flatten
theorem textT_cons (e : Ev) (l : List Ev) : textT (e :: l) = lineT e ++ [10] ++ textT l := rfl
theorem kword_len (a : Int) : (kword a).length ≤ 5 := by
 unfold kword
 split
 ·
  decide
 ·
  split <;> decide
theorem hx_len (l : List Int) : (hx l).length ≤ 2 * l.length + 1 := by
 unfold hx
 split
 ·
  simp
 ·
  rw [hexL_len]
  omega
theorem lineT_len {e : Ev} (h : GE e) : (lineT e).length ≤ 40200 := by
 have h1 := kword_len e.f0
 have h2 := itoa_len h.1
 have h3 := hx_len e.f2
 have h4 := h.2.2
 unfold lineT wordsE
 split
 ·
  have := join_len [32] [kword e.f0, Lib.itoa e.f1, hx e.f2]
  simp only [tot, List.flatten_cons, List.flatten_nil, List.length_append, List.length_cons, List.length_nil] at this
  omega
 ·
  have := join_len [32] [kword e.f0, Lib.itoa e.f1]
  simp only [tot, List.flatten_cons, List.flatten_nil, List.length_append, List.length_cons, List.length_nil] at this
  omega
def outT : T → List Ev → T × Int
 | acc, [] => (acc, 0)
 | acc, e :: l => if mayE e = true then outT (acc ++ lineT e ++ [10]) l else ([], 1)
theorem outT_cons (acc : T) (e : Ev) (l : List Ev) : outT acc (e :: l) = if mayE e = true then outT (acc ++ lineT e ++ [10]) l else ([], 1) := rfl
theorem outT_eq : ∀ (l : List Ev) (acc : T), outT acc l = if l.all mayE = true then (acc ++ textT l, 0) else ([], 1)
 | [], acc => by
  rw [if_pos (show ([] : List Ev).all mayE = true from rfl), show textT [] = [] from rfl, List.append_nil]
  rfl
 | e :: l, acc => by
  rw [outT_cons, List.all_cons]
  by_cases h : mayE e = true
  ·
   rw [if_pos h, h, Bool.true_and, outT_eq l, textT_cons]
   simp only [List.append_assoc]
  ·
   rw [if_neg h, Bool.eq_false_iff.2 h]
   rfl
def outR (l : List Ev) : T × Int := if l.length > 2000 then ([], 4) else if l.all mayE = true then (textT l, 0) else ([], 1)
end Go.Proofs.YtkplklfmhieoaaaGreatDoor.Pure
end
section
namespace Go.Proofs.YtkplklfmhieoaaaGreatDoor.Pure
open Go.RowKit Go.Proofs.YtkplklfmhieoaaaGreatDoor.X Go.Proofs.YtkplklfmhieoaaaGreatDoorW.PrintWords Go.Proofs.YtkplklfmhieoaaaGreatDoorW.PrintLast Go.Proofs.YtkplklfmhieoaaaGreatDoorW.PrintMore Go.Proofs.YtkplklfmhieoaaaGreatDoor.Aid Go.Proofs.YtkplklfmhieoaaaGreatDoor.Bytes
set_option linter.unusedVariables false
theorem mk_cat (a b : T) : mk a ++ mk b = mk (a ++ b) := mk_append a b
theorem text_l0 {l : List Ev} (hn : l.length ≤ 2000) (hg : ∀ e ∈ l, GE e) (d : Nat) : ∀ (i k : Nat) (acc : T), i + d = l.length → d < k → acc.length ≤ i * 40201 →
 script_Text.l0 k (mk acc) l (l.length : Int) (i : Int) = some (mk (outT acc (l.drop i)).1, (outT acc (l.drop i)).2) := by
 induction d with
 | zero =>
  intro i k acc hi hk _
  obtain ⟨k, rfl⟩ := succ_of hk
  simp only [script_Text.l0]
  rw [if_neg (by omega), List.drop_of_length_le (by omega)]
  rfl
 | succ d ih =>
  intro i k acc hi hk ha
  obtain ⟨k, rfl⟩ := succ_of hk
  have hlt : i < l.length := by omega
  have hge := hg _ (List.getElem_mem hlt)
  have hline := lineT_len hge
  simp only [script_Text.l0]
  rw [if_pos (by omega), if_pos (by omega), if_pos (by omega), rdEv hlt, drop_at hlt, w64s (by omega), may_eq, outT_cons]
  simp only [Option.bind_some]
  by_cases hm : mayE l[i] = true
  ·
   rw [if_pos hm, if_pos hm]
   have hk3 := ((may_iff _).1 hm).1
   rw [of_eq, if_pos hk3, format_eq hge.1, hex_eq hge.2.1 (by have := hge.2.2; omega)]
   simp only [Option.bind_some]
   have h1 := ih (i + 1) k (acc ++ lineT l[i] ++ [10]) (by omega) (by omega) (by rw [List.length_append, List.length_append, List.length_singleton]; omega)
   have e32 : (⟨#[32]⟩ : ByteArray) = mk [32] := rfl
   have e10 : (⟨#[10]⟩ : ByteArray) = mk [10] := rfl
   have hfin : ∀ t : T, t = lineT l[i] → (if (mk acc).size + (mk t).size ≤ 140737488355328 then (if (mk acc ++ mk t).size + 1 ≤ 140737488355328 then (script_Text.l0 k ((mk acc ++ mk t) ++ (⟨#[10]⟩ : ByteArray)) l (l.length : Int) ((i + 1 : Nat) : Int)) else (none)) else (none)) = some (mk (outT (acc ++ lineT l[i] ++ [10]) (l.drop (i + 1))).1, (outT (acc ++ lineT l[i] ++ [10]) (l.drop (i + 1))).2) := by
    intro t ht
    subst ht
    rw [e10, mk_cat, mk_cat, mk_size, mk_size, mk_size, if_pos (by omega), if_pos (by rw [List.length_append]; omega)]
    exact h1
   by_cases hc : (l[i]).f0 = 1
   ·
    have hw : wordsE l[i] = [kword (l[i]).f0, Lib.itoa (l[i]).f1, hx (l[i]).f2] := if_pos hc
    have hj : word_Join.f (mk [32]) ([mk (kword (l[i]).f0), mk (Lib.itoa (l[i]).f1)] ++ [mk (hx (l[i]).f2)]) = some (mk (lineT l[i])) := by
     have := join_eq (L := wordsE l[i]) (s := [32]) (by rw [hw]; simp) (by have : (Lib.join (wordsE l[i]) [32]).length ≤ 40200 := hline; omega)
     rw [hw] at this
     unfold lineT
     rw [hw]
     exact this
    rw [if_pos (decide_eq_true hc)]
    rw [e32, hj]
    simp only [Option.bind_some]
    rw [if_pos (by simp)]
    exact hfin _ rfl
   ·
    have hw : wordsE l[i] = [kword (l[i]).f0, Lib.itoa (l[i]).f1] := if_neg hc
    have hj : word_Join.f (mk [32]) [mk (kword (l[i]).f0), mk (Lib.itoa (l[i]).f1)] = some (mk (lineT l[i])) := by
     have := join_eq (L := wordsE l[i]) (s := [32]) (by rw [hw]; simp) (by have : (Lib.join (wordsE l[i]) [32]).length ≤ 40200 := hline; omega)
     rw [hw] at this
     unfold lineT
     rw [hw]
     exact this
    rw [if_neg (by simpa using hc)]
    rw [e32, hj]
    simp only [Option.bind_some]
    exact hfin _ rfl
  ·
   rw [if_neg hm, if_neg hm]
   rfl
theorem text_eq {l : List Ev} (hg : ∀ e ∈ l, GE e) {k : Nat} (hk : 2000 < k) : script_Text.f k l = some (mk (outR l).1, (outR l).2) := by
 unfold script_Text.f outR
 by_cases h : l.length > 2000
 ·
  rw [if_pos (by omega), if_pos h]
  rfl
 ·
  rw [if_neg (by omega), if_neg h]
  have h0 := text_l0 (l := l) (by omega) hg l.length 0 k [] (by omega) (by omega) (Nat.zero_le _)
  rw [List.drop_zero, outT_eq, List.nil_append] at h0
  exact h0
end Go.Proofs.YtkplklfmhieoaaaGreatDoor.Pure
end
section
namespace Go.Proofs.YtkplklfmhieoaaaGreatDoor.Pure
open Go.RowKit Go.Proofs.YtkplklfmhieoaaaGreatDoor.X Go.Proofs.YtkplklfmhieoaaaGreatDoorW.PrintWords Go.Proofs.YtkplklfmhieoaaaGreatDoorW.PrintLast Go.Proofs.YtkplklfmhieoaaaGreatDoorW.PrintMore Go.Proofs.YtkplklfmhieoaaaGreatDoor.Aid Go.Proofs.YtkplklfmhieoaaaGreatDoor.Bytes
set_option linter.unusedVariables false
theorem one_dig {u : Nat} : strOfNums [((48 + u % 10 : Nat) : Int)] = mk [UInt8.ofNat (48 + u % 10)] := by
 have e := ofNat_dig (show u % 10 < 10 by omega)
 rw [← one_mk, e]
theorem tmod_neg (u : Nat) : Int.tmod (-(u : Int)) 10 = -((u % 10 : Nat) : Int) := by
 rw [Int.neg_tmod]
 rfl
theorem tdiv_neg (u : Nat) : Int.tdiv (-(u : Int)) 10 = -((u / 10 : Nat) : Int) := by
 rw [Int.neg_tdiv]
 rfl
theorem num_l0 (n : Int) (d : Nat) : ∀ (u k : Nat) (acc : T), u < 10 ^ (d + 1) → (u : Int) ≤ 9223372036854775808 → acc.length + d ≤ 1000 → d < k →
 r01_Number.l0 k n (-(u : Int)) (mk acc) = some (mk (sgn n ++ (Lib.decDigits u ++ acc))) := by
 induction d with
 | zero =>
  intro u k acc hu hm ha hk
  obtain ⟨k, rfl⟩ := succ_of hk
  rw [r01_Number.l0, tmod_neg, tdiv_neg]
  have hu' : u < 10 := by simpa using hu
  have e1 : (wrap64 (48 + (wrap64 (-(-((u % 10 : Nat) : Int)))))) % 256 = ((48 + u % 10 : Nat) : Int) := by
   rw [w64 (a := -(-((u % 10 : Nat) : Int))) (by omega) (by omega), w64 (by omega) (by omega)]
   omega
  have e2 : wrap64 (-((u / 10 : Nat) : Int)) = 0 := by rw [w64 (by omega) (by omega)]; omega
  rw [e1, e2, Option.bind_some, one_dig, mk_append, mk_size, mk_size, if_pos (by simp only [List.length_singleton]; omega), if_pos rfl, d_small hu', show u % 10 = u by omega]
  unfold sgn
  by_cases hn : n < 0
  ·
   rw [if_pos hn, if_pos hn, mk_size, if_pos (by simp only [List.length_append, List.length_singleton]; omega), show (⟨#[45]⟩ : ByteArray) = mk [45] from rfl, mk_append]
  ·
   rw [if_neg hn, if_neg hn]
   rfl
 | succ d ih =>
  intro u k acc hu hm ha hk
  by_cases hu' : u < 10
  ·
   obtain ⟨k, rfl⟩ := succ_of hk
   rw [r01_Number.l0, tmod_neg, tdiv_neg]
   have e1 : (wrap64 (48 + (wrap64 (-(-((u % 10 : Nat) : Int)))))) % 256 = ((48 + u % 10 : Nat) : Int) := by
    rw [w64 (a := -(-((u % 10 : Nat) : Int))) (by omega) (by omega), w64 (by omega) (by omega)]
    omega
   have e2 : wrap64 (-((u / 10 : Nat) : Int)) = 0 := by rw [w64 (by omega) (by omega)]; omega
   rw [e1, e2, Option.bind_some, one_dig, mk_append, mk_size, mk_size, if_pos (by simp only [List.length_singleton]; omega), if_pos rfl, d_small hu', show u % 10 = u by omega]
   unfold sgn
   by_cases hn : n < 0
   ·
    rw [if_pos hn, if_pos hn, mk_size, if_pos (by simp only [List.length_append, List.length_singleton]; omega), show (⟨#[45]⟩ : ByteArray) = mk [45] from rfl, mk_append]
   ·
    rw [if_neg hn, if_neg hn]
    rfl
  ·
   obtain ⟨k, rfl⟩ := succ_of hk
   rw [r01_Number.l0, tmod_neg, tdiv_neg]
   have e1 : (wrap64 (48 + (wrap64 (-(-((u % 10 : Nat) : Int)))))) % 256 = ((48 + u % 10 : Nat) : Int) := by
    rw [w64 (a := -(-((u % 10 : Nat) : Int))) (by omega) (by omega), w64 (by omega) (by omega)]
    omega
   have e2 : wrap64 (-((u / 10 : Nat) : Int)) = -((u / 10 : Nat) : Int) := w64 (by omega) (by omega)
   rw [e1, e2, Option.bind_some, one_dig, mk_append, mk_size, mk_size, if_pos (by simp only [List.length_singleton]; omega), if_neg (by omega), d_big hu']
   rw [ih (u / 10) k _ (by rw [Nat.pow_succ] at hu; omega) (by omega) (by simp only [List.length_append, List.length_singleton]; omega) (by omega), List.append_assoc]
theorem number_eq {n : Int} (h : I64 n) {k : Nat} (hk : 40 ≤ k) : r01_Number.f k n = some (mk (Lib.itoa n)) := by
 unfold I64 at h
 obtain ⟨k, rfl⟩ := succ_of (show 0 < k by omega)
 have h20 : n.natAbs < 10 ^ (20 + 1) := by
  have : (10 : Nat) ^ 21 = 1000000000000000000000 := by decide
  omega
 have e := num_l0 n 20 n.natAbs k [] h20 (by omega) (by simp) (by omega)
 rw [List.append_nil, ← itoa_sgn] at e
 have e3 : (⟨#[]⟩ : ByteArray) = mk [] := rfl
 unfold r01_Number.f
 by_cases hn : n > 0
 ·
  rw [if_pos hn, r01_Number.j0, w64 (by omega) (by omega), e3, show -n = -(n.natAbs : Int) by omega]
  exact e
 ·
  rw [if_neg hn, r01_Number.j0, e3]
  conv => lhs; arg 3; rw [show n = -(n.natAbs : Int) by omega]
  exact e
end Go.Proofs.YtkplklfmhieoaaaGreatDoor.Pure
end
section
namespace Go.Proofs.YtkplklfmhieoaaaGreatDoor.Pure
open Go.RowKit Go.Proofs.YtkplklfmhieoaaaGreatDoor.X Go.Proofs.YtkplklfmhieoaaaGreatDoorW.PrintWords Go.Proofs.YtkplklfmhieoaaaGreatDoorW.PrintLast Go.Proofs.YtkplklfmhieoaaaGreatDoorW.PrintMore Go.Proofs.YtkplklfmhieoaaaGreatDoor.Aid Go.Proofs.YtkplklfmhieoaaaGreatDoor.Bytes
set_option linter.unusedVariables false
theorem few_l0 {l : List Ev} (hn : l.length ≤ 3000) (d : Nat) : ∀ (i k : Nat), i + d = l.length → d < k → r25_Few.l0 k l (i : Int) = some ((l.drop i).all fun e => decide (e.f2.length ≤ 400)) := by
 induction d with
 | zero =>
  intro i k hi hk
  obtain ⟨k, rfl⟩ := succ_of hk
  simp only [r25_Few.l0]
  rw [if_neg (by omega), List.drop_of_length_le (by omega)]
  rfl
 | succ d ih =>
  intro i k hi hk
  obtain ⟨k, rfl⟩ := succ_of hk
  have hlt : i < l.length := by omega
  simp only [r25_Few.l0]
  rw [if_pos (by omega), if_pos (by omega), rdEv hlt, drop_at hlt, w64s (by omega), ih (i + 1) k (by omega) (by omega), List.all_cons]
  by_cases h : l[i].f2.length ≤ 400
  ·
   rw [if_neg (by omega), decide_eq_true h, Bool.true_and]
  ·
   rw [if_pos (by omega), decide_eq_false h, Bool.false_and]
theorem few_or (l : List Ev) {n : Int} (hn : n ≤ 3000) {k : Nat} (hk : 3000 < k) : r25_Few.f k l n = some false ∨ (r25_Few.f k l n = some true ∧ (l.length : Int) ≤ n ∧ ∀ e ∈ l, e.f2.length ≤ 400) := by
 unfold r25_Few.f
 by_cases h : (l.length : Int) > n
 ·
  exact .inl (if_pos h)
 ·
  rw [if_neg h]
  have h0 := few_l0 (l := l) (by omega) l.length 0 k (by omega) (by omega)
  rw [show ((0 : Nat) : Int) = 0 from rfl, List.drop_zero] at h0
  rw [h0]
  cases hb : l.all fun e => decide (e.f2.length ≤ 400) with
  | false => exact .inl rfl
  | true => exact .inr ⟨rfl, by omega, fun e he => of_decide_eq_true (List.all_eq_true.1 hb e he)⟩
theorem rmay_eq (e : Ev) : r26_may.f e.f0 e.f1 e.f2 = some (mayE e) := by
 unfold r26_may.f r26_most.f
 by_cases h1 : e.f1 ≥ 0
 ·
  rw [if_pos h1]
  have hz : ∀ b : Bool, ((e.f2.length : Int) == 0) = decide (e.f2 = []) := by
   intro _
   cases e.f2 with
   | nil => rfl
   | cons x l =>
    rw [decide_eq_false (by simp)]
    exact beq_eq_false_iff_ne.2 (by rw [List.length_cons]; omega)
  have hz' := hz true
  by_cases c1 : e.f0 = 1
  ·
   rw [if_pos c1]
   simp only [Option.bind_some]
   by_cases h2 : e.f1 ≤ 3
   ·
    rw [if_pos h2, if_pos c1, (may_iff e).2 ⟨by omega, h1, by unfold kmost; rw [if_pos c1]; exact h2, .inl c1⟩]
   ·
    rw [if_neg h2]
    have : ¬ mayE e = true := fun h => by
     have := ((may_iff e).1 h).2.2.1
     unfold kmost at this
     rw [if_pos c1] at this
     omega
    rw [Bool.eq_false_iff.2 this]
  ·
   rw [if_neg c1]
   have key : ∀ (_ : e.f0 = 2 ∨ e.f0 = 3), (if e.f1 ≤ 1000000000000 then (if e.f0 = 1 then (some true) else (some ((e.f2.length : Int) == 0))) else (some false)) = some (mayE e) := by
    intro hc
    by_cases h2 : e.f1 ≤ 1000000000000
    ·
     rw [if_pos h2, if_neg c1, hz']
     congr 1
     by_cases h3 : e.f2 = []
     ·
      rw [decide_eq_true h3, (may_iff e).2 ⟨by omega, h1, by unfold kmost; rw [if_neg c1]; exact h2, .inr h3⟩]
     ·
      rw [decide_eq_false h3]
      have : ¬ mayE e = true := fun h => by
       rcases ((may_iff e).1 h).2.2.2 with h | h
       ·
        exact c1 h
       ·
        exact h3 h
      rw [Bool.eq_false_iff.2 this]
    ·
     rw [if_neg h2]
     have : ¬ mayE e = true := fun h => by
      have := ((may_iff e).1 h).2.2.1
      unfold kmost at this
      rw [if_neg c1] at this
      omega
     rw [Bool.eq_false_iff.2 this]
   by_cases c2 : e.f0 = 2
   ·
    rw [if_pos c2]
    exact key (.inl c2)
   ·
    rw [if_neg c2]
    by_cases c3 : e.f0 = 3
    ·
     rw [if_pos c3]
     exact key (.inr c3)
    ·
     rw [if_neg c3]
     simp only [Option.bind_some]
     rw [if_neg (by omega)]
     have : ¬ mayE e = true := fun h => by
      have := ((may_iff e).1 h).1
      omega
     rw [Bool.eq_false_iff.2 this]
 ·
  rw [if_neg h1]
  have : ¬ mayE e = true := fun h => h1 ((may_iff e).1 h).2.1
  rw [Bool.eq_false_iff.2 this]
def rightE (l : List Ev) : Bool := if l.all mayE = true then decide (l.length ≤ 2000) else false
theorem rright_l0 {l : List Ev} (hn : l.length ≤ 3000) (d : Nat) : ∀ (i k : Nat), i + d = l.length → d < k → r26_Right.l0 k l (i : Int) = some (if (l.drop i).all mayE = true then decide (l.length ≤ 2000) else false) := by
 induction d with
 | zero =>
  intro i k hi hk
  obtain ⟨k, rfl⟩ := succ_of hk
  simp only [r26_Right.l0]
  rw [if_neg (by omega), List.drop_of_length_le (by omega), if_pos (by rfl)]
  congr 1
  by_cases h : l.length ≤ 2000
  ·
   rw [decide_eq_true h, decide_eq_true (by omega)]
  ·
   rw [decide_eq_false h, decide_eq_false (by omega)]
 | succ d ih =>
  intro i k hi hk
  obtain ⟨k, rfl⟩ := succ_of hk
  have hlt : i < l.length := by omega
  simp only [r26_Right.l0]
  rw [if_pos (by omega), if_pos (by omega), rdEv hlt, drop_at hlt, w64s (by omega), ih (i + 1) k (by omega) (by omega), rmay_eq, List.all_cons]
  simp only [Option.bind_some]
  by_cases h : mayE l[i] = true
  ·
   rw [if_pos h, h, Bool.true_and]
  ·
   rw [if_neg h, Bool.eq_false_iff.2 h, Bool.false_and, if_neg (by simp)]
theorem rright_eq {l : List Ev} (hn : l.length ≤ 3000) {k : Nat} (hk : 3000 < k) : r26_Right.f k l = some (rightE l) := by
 have h0 := rright_l0 hn l.length 0 k (by omega) (by omega)
 rw [List.drop_zero] at h0
 exact h0
end Go.Proofs.YtkplklfmhieoaaaGreatDoor.Pure
end
section
namespace Go.Proofs.YtkplklfmhieoaaaGreatDoor.Pure
open Go.RowKit Go.Proofs.YtkplklfmhieoaaaGreatDoor.X Go.Proofs.YtkplklfmhieoaaaGreatDoorW.PrintWords Go.Proofs.YtkplklfmhieoaaaGreatDoorW.PrintLast Go.Proofs.YtkplklfmhieoaaaGreatDoorW.PrintMore Go.Proofs.YtkplklfmhieoaaaGreatDoor.Aid Go.Proofs.YtkplklfmhieoaaaGreatDoor.Bytes
set_option linter.unusedVariables false
theorem rdigit_eq {i : Nat} (h : i < 16) : r26_digit.f (i : Int) = some (mk [hexD.getD i 0]) := by
 unfold r26_digit.f
 have e : (⟨#[48, 49, 50, 51, 52, 53, 54, 55, 56, 57, 97, 98, 99, 100, 101, 102]⟩ : ByteArray) = mk hexD := rfl
 have g : ∀ i, i < 16 → (hexD.drop i).take (i + 1 - i) = [hexD.getD i 0] := by decide +kernel
 rw [w64s (by omega), if_pos (by omega), if_pos (by omega), if_pos (by omega), e, mk_extract, Int.toNat_natCast, Int.toNat_natCast, g i h]
theorem rdata_l0 {l : List Int} (hb : Byt l) (hl : l.length ≤ 100000) (d : Nat) : ∀ (i k : Nat) (acc : T), i + d = l.length → d < k → acc.length ≤ 2 * i →
 r26_data.l0 k l (mk acc) (i : Int) = some (mk (acc ++ hexL (l.drop i))) := by
 induction d with
 | zero =>
  intro i k acc hi hk _
  obtain ⟨k, rfl⟩ := succ_of hk
  simp only [r26_data.l0]
  rw [if_neg (by omega), List.drop_of_length_le (by omega), show hexL [] = [] from rfl, List.append_nil]
 | succ d ih =>
  intro i k acc hi hk ha
  obtain ⟨k, rfl⟩ := succ_of hk
  have hlt : i < l.length := by omega
  have hc := hb _ (List.getElem_mem hlt)
  have h1 := ih (i + 1) k (acc ++ hexC l[i]) (by omega) (by omega) (by rw [List.length_append]; have : (hexC l[i]).length = 2 := rfl; omega)
  rw [drop_at hlt, hexL_cons, ← List.append_assoc]
  simp only [r26_data.l0]
  rw [rd_at hlt, w64s (by omega)]
  obtain ⟨n, hn⟩ : ∃ n : Nat, l[i] = (n : Int) := ⟨l[i].toNat, by omega⟩
  have hx : hexC l[i] = [hexD.getD (n / 16) 0] ++ [hexD.getD (n % 16) 0] := by
   unfold hexC
   rw [hn, Int.toNat_natCast]
   rfl
  rw [hx] at h1 ⊢
  rw [hn] at hc ⊢
  have e0 : wrap64 (n : Int) = (n : Int) := w64 (by omega) (by omega)
  have e1 : wrap64 (Int.tdiv (n : Int) 16) = ((n / 16 : Nat) : Int) := by
   rw [show Int.tdiv (n : Int) 16 = ((n / 16 : Nat) : Int) from rfl]
   exact w64 (by omega) (by omega)
  have e2 : Int.tmod (n : Int) 16 = ((n % 16 : Nat) : Int) := rfl
  rw [e0, e1, e2, if_pos (by omega), if_pos (by omega), rdigit_eq (by omega), rdigit_eq (by omega)]
  simp only [Option.bind_some]
  rw [mk_append, mk_append, mk_size, mk_size, mk_size, mk_size, if_pos (by rw [List.length_singleton]; omega), if_pos (by rw [List.length_append, List.length_singleton, List.length_singleton]; omega)]
  rw [← List.append_assoc] at h1
  rw [← List.append_assoc]
  exact h1
theorem rdata_eq {l : List Int} (hb : Byt l) (hl : l.length ≤ 100000) {k : Nat} (hk : 100000 < k) : r26_data.f k l = some (mk (hx l)) := by
 unfold r26_data.f hx
 by_cases h : l = []
 ·
  rw [if_pos (by rw [h]; rfl), if_pos h]
  rfl
 ·
  rw [if_neg (fun e => h (List.length_eq_zero_iff.1 (by omega))), if_neg h]
  have h0 := rdata_l0 hb hl l.length 0 k [] (by omega) (by omega) (Nat.zero_le _)
  rw [List.drop_zero, List.nil_append] at h0
  exact h0
theorem rname_eq {a : Int} (h : 1 ≤ a ∧ a ≤ 3) : ∃ ns, r26_names.f = some ns ∧ ns.length = 4 ∧ rdOf ByteArray.empty ns a = mk (kword a) := by
 refine ⟨_, rfl, rfl, ?_⟩
 have h3 : a = 1 ∨ a = 2 ∨ a = 3 := by omega
 rcases h3 with rfl | rfl | rfl <;> rfl
theorem line_chunk {e : Ev} (h : e.f0 = 1) (acc : T) : (((((acc ++ kword e.f0) ++ [32]) ++ Lib.itoa e.f1) ++ [32]) ++ hx e.f2) ++ [10] = acc ++ lineT e ++ [10] := by
 unfold lineT wordsE
 rw [if_pos h, Lib.join_cons, tail_cons, tail_cons]
 simp [Lib.joinTail]
theorem line_other {e : Ev} (h : ¬ e.f0 = 1) (acc : T) : (((acc ++ kword e.f0) ++ [32]) ++ Lib.itoa e.f1) ++ [10] = acc ++ lineT e ++ [10] := by
 unfold lineT wordsE
 rw [if_neg h, Lib.join_cons, tail_cons]
 simp [Lib.joinTail]
theorem rtext_l0 {l : List Ev} (hn : l.length ≤ 2000) (hg : ∀ e ∈ l, GE e) (d : Nat) : ∀ (i k : Nat) (acc : T), i + d = l.length → d + 100001 < k → acc.length ≤ i * 40201 →
 r26_Text.l0 k l (mk acc) (i : Int) = some (mk (outT acc (l.drop i)).1, (outT acc (l.drop i)).2) := by
 induction d with
 | zero =>
  intro i k acc hi hk _
  obtain ⟨k, rfl⟩ := succ_of hk
  simp only [r26_Text.l0]
  rw [if_neg (by omega), List.drop_of_length_le (by omega)]
  rfl
 | succ d ih =>
  intro i k acc hi hk ha
  obtain ⟨k, rfl⟩ := succ_of hk
  have hlt : i < l.length := by omega
  have hge := hg _ (List.getElem_mem hlt)
  have hline := lineT_len hge
  have hkl := kword_len (l[i]).f0
  have hil := itoa_len hge.1
  have hhl := hx_len (l[i]).f2
  have hdl := hge.2.2
  simp only [r26_Text.l0]
  rw [if_pos (by omega), if_pos (by omega), rdEv hlt, drop_at hlt, w64s (by omega), rmay_eq, outT_cons]
  simp only [Option.bind_some]
  by_cases hm : mayE l[i] = true
  ·
   rw [if_pos hm, if_pos hm]
   have hk3 := ((may_iff _).1 hm).1
   obtain ⟨ns, hns, hnl, hnm⟩ := rname_eq hk3
   have h1 := ih (i + 1) k (acc ++ lineT l[i] ++ [10]) (by omega) (by omega) (by rw [List.length_append, List.length_append, List.length_singleton]; omega)
   have e32 : (⟨#[32]⟩ : ByteArray) = mk [32] := rfl
   have e10 : (⟨#[10]⟩ : ByteArray) = mk [10] := rfl
   rw [hns]
   simp only [Option.bind_some]
   rw [if_pos (by omega), if_pos (by rw [hnl]; omega), hnm, e32, e10]
   simp only [mk_append, mk_size, List.length_append, List.length_singleton]
   rw [if_pos (by omega), if_pos (by omega), number_eq hge.1 (by omega)]
   simp only [Option.bind_some, mk_append, mk_size, List.length_append, List.length_singleton]
   rw [if_pos (by omega)]
   by_cases hc : (l[i]).f0 = 1
   ·
    rw [if_pos hc, if_pos (by omega), rdata_eq hge.2.1 (by omega) (by omega)]
    simp only [Option.bind_some, mk_append, mk_size, List.length_append, List.length_singleton]
    rw [if_pos (by omega), if_pos (by omega), line_chunk hc]
    exact h1
   ·
    rw [if_neg hc, if_pos (by omega), line_other hc]
    exact h1
  ·
   rw [if_neg hm, if_neg hm]
   rfl
theorem rtext_eq {l : List Ev} (hg : ∀ e ∈ l, GE e) {k : Nat} (hk : 102002 < k) : r26_Text.f k l = some (mk (outR l).1, (outR l).2) := by
 unfold r26_Text.f outR
 by_cases h : l.length > 2000
 ·
  rw [if_pos (by omega), if_pos h]
  rfl
 ·
  rw [if_neg (by omega), if_neg h]
  have h0 := rtext_l0 (l := l) (by omega) hg l.length 0 k [] (by omega) (by omega) (Nat.zero_le _)
  rw [List.drop_zero, outT_eq, List.nil_append] at h0
  exact h0
end Go.Proofs.YtkplklfmhieoaaaGreatDoor.Pure
end
section
namespace Go.Proofs.YtkplklfmhieoaaaGreatDoor.Pure
open Go.RowKit Go.Proofs.YtkplklfmhieoaaaGreatDoor.X Go.Proofs.YtkplklfmhieoaaaGreatDoorW.PrintWords Go.Proofs.YtkplklfmhieoaaaGreatDoorW.PrintLast Go.Proofs.YtkplklfmhieoaaaGreatDoorW.PrintMore Go.Proofs.YtkplklfmhieoaaaGreatDoor.Aid Go.Proofs.YtkplklfmhieoaaaGreatDoor.Bytes
set_option linter.unusedVariables false
theorem idx_l0 {l : List Ev} (hn : l.length ≤ 3000) (d : Nat) : ∀ (i k : Nat), i + d = l.length → d < k → ∃ r : Int, api_Event_with_28_42.l0 k l (l.length : Int) (i : Int) = some r ∧ decide (r ≥ 0) = !((l.drop i).all mayE) := by
 induction d with
 | zero =>
  intro i k hi hk
  obtain ⟨k, rfl⟩ := succ_of hk
  simp only [api_Event_with_28_42.l0]
  rw [if_neg (by omega), List.drop_of_length_le (by omega)]
  exact ⟨-1, rfl, rfl⟩
 | succ d ih =>
  intro i k hi hk
  obtain ⟨k, rfl⟩ := succ_of hk
  have hlt : i < l.length := by omega
  obtain ⟨r, h1, h2⟩ := ih (i + 1) k (by omega) (by omega)
  simp only [api_Event_with_28_42.l0, script_Right_1.f]
  rw [if_pos (by omega), if_pos (by omega), if_pos (by omega), rdEv hlt, may_eq, drop_at hlt, w64s (by omega), List.all_cons]
  simp only [Option.bind_some]
  by_cases h : mayE l[i] = true
  ·
   rw [h, Bool.true_and, if_neg (by simp)]
   exact ⟨r, h1, h2⟩
  ·
   rw [Bool.eq_false_iff.2 h, Bool.false_and, if_pos (by simp)]
   exact ⟨(i : Int), rfl, decide_eq_true (by omega)⟩
theorem right_eq {l : List Ev} (hn : l.length ≤ 3000) {k : Nat} (hk : 3000 < k) : script_Right.f k l = some (rightE l) := by
 unfold script_Right.f rightE
 by_cases h : l.length ≤ 2000
 ·
  rw [if_pos (by omega), decide_eq_true h]
  unfold api_Event_with_28_27.f api_Event_with_28_42.f
  obtain ⟨r, h1, h2⟩ := idx_l0 hn l.length 0 k (by omega) (by omega)
  rw [show ((0 : Nat) : Int) = 0 from rfl] at h1
  rw [h1]
  simp only [Option.bind_some]
  rw [h2, List.drop_zero, Bool.not_not]
  by_cases h3 : l.all mayE = true
  ·
   rw [if_pos h3, h3]
  ·
   rw [if_neg h3, Bool.eq_false_iff.2 h3]
 ·
  rw [if_neg (by omega), decide_eq_false h]
  split <;> rfl
def eqV (x y : Ev) : Bool := if x.f0 = y.f0 then (if x.f1 = y.f1 then ((strOfNums x.f2).toList == (strOfNums y.f2).toList) else false) else false
def eqL : List Ev → List Ev → Bool
 | x :: l, y :: m => if eqV x y = true then eqL l m else false
 | _, _ => true
theorem eqL_cons (x y : Ev) (l m : List Ev) : eqL (x :: l) (y :: m) = if eqV x y = true then eqL l m else false := rfl
theorem same1_eq (x y : Ev) : script_Same_1.f x.f0 x.f1 x.f2 y.f0 y.f1 y.f2 = some (eqV x y) := by
 unfold script_Same_1.f bytes_Equal.f eqV
 split
 ·
  split <;> rfl
 ·
  rfl
def sameL (l m : List Ev) : Bool := if l.length = m.length then eqL l m else false
theorem same_l0 {l m : List Ev} (hn : l.length ≤ 3000) (he : l.length = m.length) (d : Nat) : ∀ (i k : Nat), i + d = l.length → d < k → api_Event_with_30.l0 k m l (l.length : Int) (i : Int) = some (eqL (l.drop i) (m.drop i)) ∧ r26_Same.l0 k l m (i : Int) = some (eqL (l.drop i) (m.drop i)) := by
 induction d with
 | zero =>
  intro i k hi hk
  obtain ⟨k, rfl⟩ := succ_of hk
  simp only [api_Event_with_30.l0, r26_Same.l0]
  rw [if_neg (by omega), if_neg (by omega), List.drop_of_length_le (by omega)]
  exact ⟨rfl, rfl⟩
 | succ d ih =>
  intro i k hi hk
  obtain ⟨k, rfl⟩ := succ_of hk
  have hlt : i < l.length := by omega
  have hlm : i < m.length := by omega
  obtain ⟨i1, i2⟩ := ih (i + 1) k (by omega) (by omega)
  rw [drop_at hlt, drop_at hlm, eqL_cons]
  refine ⟨?_, ?_⟩
  ·
   simp only [api_Event_with_30.l0]
   rw [if_pos (by omega), if_pos (by omega), if_pos (by omega), if_pos (by omega), rdEv hlt, rdEv hlm, same1_eq, w64s (by omega), i1]
   simp only [Option.bind_some]
   split <;> rfl
  ·
   simp only [r26_Same.l0]
   rw [if_pos (by omega), if_pos (by omega), if_pos (by omega), rdEv hlt, rdEv hlm, w64s (by omega), i2]
   unfold eqV
   by_cases c1 : l[i].f0 = m[i].f0
   ·
    rw [if_pos c1, if_pos c1]
    by_cases c2 : l[i].f1 = m[i].f1
    ·
     rw [if_pos c2, if_pos c2]
     by_cases c3 : (strOfNums l[i].f2).toList = (strOfNums m[i].f2).toList
     ·
      rw [if_pos c3, if_pos (beq_iff_eq.2 c3)]
     ·
      rw [if_neg c3, if_neg (fun h => c3 (beq_iff_eq.1 h))]
    ·
     rw [if_neg c2, if_neg c2]
     rfl
   ·
    rw [if_neg c1, if_neg c1]
    rfl
theorem same_both {l m : List Ev} (hn : l.length ≤ 3000) {k : Nat} (hk : 3000 < k) : script_Same.f k l m = some (sameL l m) ∧ r26_Same.f k l m = some (sameL l m) := by
 unfold script_Same.f api_Event_with_30.f r26_Same.f sameL
 by_cases h : l.length = m.length
 ·
  obtain ⟨h1, h2⟩ := same_l0 hn h l.length 0 k (by omega) (by omega)
  rw [show ((0 : Nat) : Int) = 0 from rfl, List.drop_zero, List.drop_zero] at h1 h2
  rw [if_pos (by omega), if_pos h, if_pos (by omega), h1, h2]
  exact ⟨rfl, rfl⟩
 ·
  rw [if_neg (by omega), if_neg h, if_neg (by omega)]
  exact ⟨rfl, rfl⟩
end Go.Proofs.YtkplklfmhieoaaaGreatDoor.Pure
end
section
namespace Go.Proofs.YtkplklfmhieoaaaGreatDoor.Pure
open Go.RowKit Go.Proofs.YtkplklfmhieoaaaGreatDoor.X Go.Proofs.YtkplklfmhieoaaaGreatDoorW.PrintWords Go.Proofs.YtkplklfmhieoaaaGreatDoorW.PrintLast Go.Proofs.YtkplklfmhieoaaaGreatDoorW.PrintMore Go.Proofs.YtkplklfmhieoaaaGreatDoor.Aid Go.Proofs.YtkplklfmhieoaaaGreatDoor.Bytes
set_option linter.unusedVariables false
theorem alive_eq (k : Nat) (hk : 60 ≤ k) : w26_alive.f k = some true :=
 at_rounds (g := fun k => w26_alive.f k) w26_alive.mono hk (by decide +kernel)
theorem j0_true (l m : List Ev) {k : Nat} (hk : 0 < k) : w26_ScriptTexts.j0 k l m true = some true := by
 obtain ⟨k, rfl⟩ := succ_of hk
 simp only [w26_ScriptTexts.j0]
 rfl
theorem j0_false {l m : List Ev} (hl : l.length ≤ 2010) (hg : ∀ e ∈ l, GE e) {k : Nat} (hk : 200000 < k) : w26_ScriptTexts.j0 k l m false = some true := by
 obtain ⟨k, rfl⟩ := succ_of hk
 simp only [w26_ScriptTexts.j0]
 rw [if_neg (by simp), text_eq hg (by omega), rtext_eq hg (by omega)]
 simp only [Option.bind_some]
 rw [if_pos trivial, if_pos trivial, right_eq (by omega) (by omega), rright_eq (by omega) (by omega)]
 simp only [Option.bind_some, beq_self_eq_true, if_true]
 obtain ⟨h1, h2⟩ := same_both (l := l) (m := m) (by omega) (k := k) (by omega)
 rw [h1, h2]
 simp
theorem ge_of {e : Ev} (h : Q37 e) (h4 : e.f2.length ≤ 400) : GE e := by
 refine ⟨wf64 h.2.1, fun c hc => ?_, by omega⟩
 obtain ⟨b, rfl⟩ := byte_of (h.2.2.2 c hc)
 have := b.toNat_lt
 omega
theorem ScriptTexts : w26_ScriptTexts.Pure := by
 intro l m hq _ _ _
 obtain ⟨K, hK⟩ : ∃ K : Nat, K = 300000 := ⟨_, rfl⟩
 refine ⟨K, ?_⟩
 unfold w26_ScriptTexts.f
 rw [alive_eq K (by omega)]
 simp only [Option.bind_some, if_true]
 rcases few_or l (n := 2010) (by omega) (k := K) (by omega) with h | ⟨h, hl, h4⟩
 ·
  rw [h]
  simp only [Option.bind_some]
  rw [if_neg (by simp)]
  exact j0_true _ _ (by omega)
 ·
  rw [h]
  simp only [Option.bind_some, if_true]
  rcases few_or m (n := 2010) (by omega) (k := K) (by omega) with h2 | ⟨h2, _, _⟩
  ·
   rw [h2]
   simp only [Option.bind_some]
   exact j0_true _ _ (by omega)
  ·
   rw [h2]
   simp only [Option.bind_some]
   exact j0_false (by omega) (fun e he => ge_of (hq.2 e he) (h4 e he)) (by omega)
end Go.Proofs.YtkplklfmhieoaaaGreatDoor.Pure
end
