/- Plain facts on what the printed functions compute, joined; each says its conditions. -/
import Derived.Test.YtkplklfmhieoaaaDoorM1
import Derived.Test.YtkplklfmhieoaaaDoorM4
import Derived.Lib.ItoaNum
import Derived.Test.YtkplklfmhieoaaaDoorM5
import Derived.Lib.ParseIntB
import Derived.Lib.IndexMore
import Derived.Test.YtkplklfmhieoaaaDoorM6
section
namespace Go.Proofs.YtkplklfmhieoaaaDoor.Pure
open Go.RowKit Go.Proofs.YtkplklfmhieoaaaDoor.X Go.Proofs.YtkplklfmhieoaaaDoorW.PrintWords Go.Proofs.YtkplklfmhieoaaaDoorW.PrintLast Go.Proofs.YtkplklfmhieoaaaDoorW.PrintMore Go.Proofs.YtkplklfmhieoaaaDoor.Aid Go.Proofs.YtkplklfmhieoaaaDoor.Bytes
set_option linter.unusedVariables false
abbrev T := List UInt8
def bl (s : ByteArray) : T := s.data.toList
theorem tail_cons (s x : T) (L : List T) : Lib.joinTail s (x :: L) = s ++ x ++ Lib.joinTail s L := by simp [Lib.joinTail]
end Go.Proofs.YtkplklfmhieoaaaDoor.Pure
end
section
namespace Go.Proofs.YtkplklfmhieoaaaDoor.Pure
open Go.RowKit Go.Proofs.YtkplklfmhieoaaaDoor.X Go.Proofs.YtkplklfmhieoaaaDoorW.PrintWords Go.Proofs.YtkplklfmhieoaaaDoorW.PrintLast Go.Proofs.YtkplklfmhieoaaaDoorW.PrintMore Go.Proofs.YtkplklfmhieoaaaDoor.Aid Go.Proofs.YtkplklfmhieoaaaDoor.Bytes
set_option linter.unusedVariables false
def I64 (a : Int) : Prop := -9223372036854775808 ≤ a ∧ a ≤ 9223372036854775807
theorem d_small {u : Nat} (h : u < 10) : Lib.decDigits u = [UInt8.ofNat (48 + u)] := by rw [Lib.decDigits, dif_pos h]
theorem d_big {u : Nat} (h : ¬ u < 10) : Lib.decDigits u = Lib.decDigits (u / 10) ++ [UInt8.ofNat (48 + u % 10)] := by rw [Lib.decDigits, dif_neg h]
theorem ofNat_dig {d : Nat} (h : d < 10) : (UInt8.ofNat (48 + d)).toNat = 48 + d := by
 rw [UInt8.toNat_ofNat']
 omega
def sgn (n : Int) : T := if n < 0 then [45] else []
theorem itoa_sgn (n : Int) : Lib.itoa n = sgn n ++ Lib.decDigits n.natAbs := by
 unfold Lib.itoa sgn
 by_cases h : n < 0
 ·
  rw [if_pos h, if_pos h]; rfl
 ·
  rw [if_neg h, if_neg h, show n.toNat = n.natAbs by omega]; rfl
end Go.Proofs.YtkplklfmhieoaaaDoor.Pure
end
section
namespace Go.Proofs.YtkplklfmhieoaaaDoor.Pure
open Go.RowKit Go.Proofs.YtkplklfmhieoaaaDoor.X Go.Proofs.YtkplklfmhieoaaaDoorW.PrintWords Go.Proofs.YtkplklfmhieoaaaDoorW.PrintLast Go.Proofs.YtkplklfmhieoaaaDoorW.PrintMore Go.Proofs.YtkplklfmhieoaaaDoor.Aid Go.Proofs.YtkplklfmhieoaaaDoor.Bytes
set_option linter.unusedVariables false
def glue (p : T) : List T → List T
 | [] => [p]
 | h :: t => (p ++ h) :: t
def spl (c : UInt8) : T → List T
 | [] => [[]]
 | x :: l => if x = c then [] :: spl c l else glue [x] (spl c l)
theorem spl_cons (c x : UInt8) (l : T) : spl c (x :: l) = if x = c then [] :: spl c l else glue [x] (spl c l) := rfl
theorem spl_ne (c : UInt8) (l : T) : spl c l ≠ [] := by
 cases l with
 | nil => simp [spl]
 | cons x l =>
  rw [spl_cons]
  split
  ·
   simp
  ·
   unfold glue
   split <;> simp
theorem spl_len (c : UInt8) (l : T) : (spl c l).length ≤ l.length + 1 := by
 induction l with
 | nil => simp [spl]
 | cons x l ih =>
  rw [spl_cons, List.length_cons]
  split
  ·
   rw [List.length_cons]; omega
  ·
   have := spl_ne c l
   cases h : spl c l with
   | nil => exact absurd h this
   | cons y L =>
    rw [h] at ih
    simp only [glue, List.length_cons] at ih ⊢
    omega
theorem idx_spl (c : UInt8) (l : T) : (Lib.indexByte l c = -1 ∧ spl c l = [l]) ∨ ∃ i : Nat, Lib.indexByte l c = (i : Int) ∧ i < l.length ∧ spl c l = l.take i :: spl c (l.drop (i + 1)) := by
 induction l with
 | nil => exact .inl ⟨rfl, rfl⟩
 | cons x l ih =>
  unfold Lib.indexByte
  rw [spl_cons]
  by_cases h : x = c
  ·
   rw [if_pos (beq_iff_eq.mpr h), if_pos h]
   exact .inr ⟨0, rfl, by simp, by simp⟩
  ·
   rw [if_neg (by simpa using h), if_neg h]
   rcases ih with ⟨h1, h2⟩ | ⟨i, h1, h2, h3⟩
   ·
    rw [h1, h2]
    exact .inl ⟨rfl, rfl⟩
   ·
    rw [h1, h3, if_neg (by simp only [beq_iff_eq]; omega)]
    exact .inr ⟨i + 1, by omega, by simp only [List.length_cons]; omega, by simp [glue]⟩
theorem split_l0 (c : UInt8) (n : Nat) : ∀ (l : T) (k : Nat) (acc : List ByteArray), l.length ≤ n → n + 1 < k → acc.length + n + 1 < 100000 → word_Split.l0 k (mk l) (c.toNat : Int) acc = some (acc ++ (spl c l).map mk) := by
 induction n with
 | zero =>
  intro l k acc hl hk ha
  obtain ⟨k, rfl⟩ := succ_of hk
  have e : l = [] := List.eq_nil_of_length_eq_zero (by omega)
  subst e
  simp only [word_Split.l0, strings_IndexByte.f, Option.bind_some, mk_data, byte_back]
  rw [if_pos (by simp [Lib.indexByte]), if_pos (by omega)]
  rfl
 | succ n ih =>
  intro l k acc hl hk ha
  obtain ⟨k, rfl⟩ := succ_of hk
  simp only [word_Split.l0, strings_IndexByte.f, Option.bind_some, mk_data, byte_back, mk_size]
  rcases idx_spl c l with ⟨h1, h2⟩ | ⟨i, h1, h2, h3⟩
  ·
   rw [h1, h2, if_pos (by decide), if_pos (by omega)]
   rfl
  ·
   have hw : wrap64 ((i : Int) + 1) = ((i + 1 : Nat) : Int) := w64s (by omega)
   rw [h1, if_neg (by omega), if_pos (by omega), if_pos (by omega), if_pos (by omega), hw, if_pos (by omega), if_pos (by omega), Int.toNat_natCast, Int.toNat_natCast, mk_upto]
   have he := mk_from l (i + 1)
   rw [mk_size] at he
   rw [he, ih (l.drop (i + 1)) k _ (by rw [List.length_drop]; omega) (by omega) (by rw [List.length_append, List.length_singleton]; omega), h3, List.map_cons, List.append_assoc]
   rfl
theorem split_eq (c : UInt8) {l : T} (hl : l.length ≤ 20000) (k : Nat) (hk : 20010 < k) : word_Split.f k (mk l) (c.toNat : Int) = some ((spl c l).map mk) :=
 split_l0 c 20000 l k [] hl (by omega) (by simp)
theorem byte_all {p : UInt8 → Prop} (h : ∀ n, n < 256 → p (UInt8.ofNat n)) (b : UInt8) : p b := by
 have := h b.toNat b.toNat_lt
 rwa [UInt8.ofNat_toNat] at this
theorem dropW_nil (p : UInt8 → Bool) (l : T) : l.dropWhile p = [] ↔ l.all p = true := by
 induction l with
 | nil => simp
 | cons x l ih =>
  rw [List.dropWhile_cons, List.all_cons]
  by_cases h : p x = true
  ·
   rw [if_pos h, h, Bool.true_and]
   exact ih
  ·
   rw [if_neg h, Bool.eq_false_iff.mpr h, Bool.false_and]
   simp
theorem trim_nil (l cs : T) : Lib.trimS l cs = [] ↔ l.all (fun b => cs.contains b) = true := by
 unfold Lib.trimS Lib.trimLeftS Lib.trimRightS
 rw [dropW_nil]
 by_cases h : (l.reverse.dropWhile fun b => cs.contains b) = []
 ·
  have h2 := (dropW_nil _ _).mp h
  rw [List.all_reverse] at h2
  rw [h, h2]
  simp
 ·
  have h2 : ¬ l.all (fun b => cs.contains b) = true := fun e => h ((dropW_nil _ _).mpr (by rw [List.all_reverse]; exact e))
  rw [List.all_reverse]
  constructor
  ·
   intro e
   exfalso
   obtain ⟨x, r, hr⟩ := List.exists_cons_of_ne_nil h
   have hx : ¬ cs.contains x = true := by
    have := List.head_dropWhile_not (fun b => cs.contains b) h
    simp only [hr, List.head_cons] at this
    simpa using this
   rw [hr, List.all_cons] at e
   exact hx (by simpa using (Bool.and_eq_true_iff.mp e).1)
  ·
   intro e
   exact absurd e h2
theorem join_glue (x : T) (L : List T) (hL : L ≠ []) (s : T) : Lib.join (glue x L) s = x ++ Lib.join L s := by
 cases L with
 | nil => exact absurd rfl hL
 | cons h t => rw [glue, Lib.join_cons, Lib.join_cons, List.append_assoc]
theorem join_spl (c : UInt8) (l : T) : Lib.join (spl c l) [c] = l := by
 induction l with
 | nil => rfl
 | cons x l ih =>
  rw [spl_cons]
  by_cases h : x = c
  ·
   rw [if_pos h]
   have hne := spl_ne c l
   cases hs : spl c l with
   | nil => exact absurd hs hne
   | cons y L =>
    rw [hs, Lib.join_cons] at ih
    rw [Lib.join_cons, Lib.joinTail, List.map_cons, List.flatten_cons, ← Lib.joinTail, List.nil_append, h, List.append_assoc, ih]
    rfl
  ·
   rw [if_neg h, join_glue [x] _ (spl_ne c l), ih]
   rfl
theorem spl_no (c : UInt8) (x : T) (h : c ∉ x) : spl c x = [x] := by
 induction x with
 | nil => rfl
 | cons y x ih =>
  rw [List.mem_cons, not_or] at h
  rw [spl_cons, if_neg (fun e => h.1 e.symm), ih h.2]
  rfl
theorem spl_app (c : UInt8) (x y : T) (h : c ∉ x) : spl c (x ++ c :: y) = x :: spl c y := by
 induction x with
 | nil => rw [List.nil_append, spl_cons, if_pos rfl]
 | cons z x ih =>
  rw [List.mem_cons, not_or] at h
  rw [List.cons_append, spl_cons, if_neg (fun e => h.1 e.symm), ih h.2]
  rfl
theorem spl_join (c : UInt8) : ∀ (L : List T), L ≠ [] → (∀ x ∈ L, c ∉ x) → spl c (Lib.join L [c]) = L
 | [], h, _ => absurd rfl h
 | [x], _, h => by rw [Lib.join_one, spl_no c x (h x List.mem_cons_self)]
 | x :: y :: L, _, h => by
  have ih := spl_join c (y :: L) (by simp) (fun z hz => h z (List.mem_cons_of_mem _ hz))
  rw [Lib.join_cons] at ih
  rw [Lib.join_cons, tail_cons, List.append_assoc, List.singleton_append, spl_app c x _ (h x List.mem_cons_self), ih]
theorem spl_short (c : UInt8) : ∀ (l : T), ∀ p ∈ spl c l, p.length ≤ l.length
 | [], p, hp => by
  rw [show spl c [] = [[]] from rfl, List.mem_singleton] at hp
  rw [hp]
  exact Nat.le_refl _
 | x :: l, p, hp => by
  rw [spl_cons] at hp
  by_cases h : x = c
  ·
   rw [if_pos h] at hp
   rcases List.mem_cons.mp hp with rfl | hp
   ·
    exact Nat.zero_le _
   ·
    have := spl_short c l p hp
    rw [List.length_cons]
    omega
  ·
   rw [if_neg h] at hp
   have hne := spl_ne c l
   cases hq : spl c l with
   | nil => exact absurd hq hne
   | cons y L =>
    rw [hq] at hp
    unfold glue at hp
    rcases List.mem_cons.mp hp with rfl | hp
    ·
     have := spl_short c l y (by rw [hq]; exact List.mem_cons_self)
     simp only [List.length_append, List.length_cons, List.length_nil]
     omega
    ·
     have := spl_short c l p (by rw [hq]; exact List.mem_cons_of_mem _ hp)
     rw [List.length_cons]
     omega
end Go.Proofs.YtkplklfmhieoaaaDoor.Pure
end
section
namespace Go.Proofs.YtkplklfmhieoaaaDoor.Decs
open Go.Proofs.YtkplklfmhieoaaaDoor.Bytes
abbrev T := List UInt8
def Dig (c : UInt8) : Prop := 48 ≤ c.toNat ∧ c.toNat ≤ 57
instance (c : UInt8) : Decidable (Dig c) := inferInstanceAs (Decidable (_ ∧ _))
def valF (acc : Nat) : T → Nat
 | [] => acc
 | c :: r => valF (acc * 10 + (c.toNat - 48)) r
def val (l : T) : Nat := valF 0 l
theorem valF_snoc (c : UInt8) : ∀ (l : T) (acc : Nat), valF acc (l ++ [c]) = valF acc l * 10 + (c.toNat - 48)
 | [], _ => rfl
 | _ :: l, _ => valF_snoc c l _
theorem valF_ge : ∀ (l : T) (acc : Nat), acc ≤ valF acc l
 | [], _ => Nat.le_refl _
 | c :: l, acc => by
  have := valF_ge l (acc * 10 + (c.toNat - 48))
  unfold valF
  omega
theorem d_small {u : Nat} (h : u < 10) : Lib.decDigits u = [UInt8.ofNat (48 + u)] := by rw [Lib.decDigits, dif_pos h]
theorem d_big {u : Nat} (h : ¬ u < 10) : Lib.decDigits u = Lib.decDigits (u / 10) ++ [UInt8.ofNat (48 + u % 10)] := by rw [Lib.decDigits, dif_neg h]
theorem ofNat_dig {d : Nat} (h : d < 10) : (UInt8.ofNat (48 + d)).toNat = 48 + d := by
 rw [UInt8.toNat_ofNat']
 omega
theorem dec_facts : ∀ (n u : Nat), u < n → (∀ c ∈ Lib.decDigits u, Dig c) ∧ Lib.decDigits u ≠ [] ∧ ((Lib.decDigits u).head? = some 48 → u = 0) ∧ val (Lib.decDigits u) = u
 | 0, _, h => by omega
 | n + 1, u, h => by
  by_cases hu : u < 10
  ·
   rw [d_small hu]
   have e := ofNat_dig hu
   refine ⟨fun c hc => ?_, by simp, fun hh => ?_, ?_⟩
   ·
    rw [List.mem_singleton] at hc
    subst hc
    unfold Dig
    omega
   ·
    simp only [List.head?_cons, Option.some.injEq] at hh
    have := congrArg UInt8.toNat hh
    rw [e] at this
    have h48 : (48 : UInt8).toNat = 48 := rfl
    omega
   ·
    unfold val valF valF
    rw [e]
    omega
  ·
   rw [d_big hu]
   obtain ⟨h1, h2, h3, h4⟩ := dec_facts n (u / 10) (by omega)
   have e := ofNat_dig (show u % 10 < 10 by omega)
   refine ⟨fun c hc => ?_, by simp, fun hh => ?_, ?_⟩
   ·
    rw [List.mem_append, List.mem_singleton] at hc
    rcases hc with hc | hc
    ·
     exact h1 c hc
    ·
     subst hc
     unfold Dig
     omega
   ·
    cases hd : Lib.decDigits (u / 10) with
    | nil => exact absurd hd h2
    | cons x r =>
     rw [hd] at hh h3
     have := h3 (by simpa using hh)
     omega
   ·
    unfold val at h4 ⊢
    rw [valF_snoc, h4, e]
    omega
theorem dec_dig (u : Nat) : ∀ c ∈ Lib.decDigits u, Dig c := (dec_facts (u + 1) u (by omega)).1
theorem dec_ne (u : Nat) : Lib.decDigits u ≠ [] := (dec_facts (u + 1) u (by omega)).2.1
theorem dec_head (u : Nat) (h : (Lib.decDigits u).head? = some 48) : u = 0 := (dec_facts (u + 1) u (by omega)).2.2.1 h
theorem dec_val (u : Nat) : val (Lib.decDigits u) = u := (dec_facts (u + 1) u (by omega)).2.2.2
def Num (l : T) : Prop := l ≠ [] ∧ (l.head? = some 48 → l = [48]) ∧ ∀ c ∈ l, Dig c
theorem num_dec (u : Nat) : Num (Lib.decDigits u) := ⟨dec_ne u, fun h => by rw [dec_head u h, d_small (by omega)]; rfl, dec_dig u⟩
theorem dig_back {c : UInt8} (h : Dig c) : UInt8.ofNat (48 + (c.toNat - 48)) = c := by
 apply UInt8.toNat_inj.1
 rw [ofNat_dig (by unfold Dig at h; omega)]
 unfold Dig at h
 omega
theorem val_pos : ∀ (l : T), Num l → l ≠ [48] → 1 ≤ val l
 | [], h, _ => absurd rfl h.1
 | c :: r, h, hn => by
  have hd := h.2.2 c List.mem_cons_self
  have hc : c ≠ 48 := fun e => hn (h.2.1 (by rw [e]; rfl))
  have h2 : c.toNat ≠ 48 := fun e => hc (UInt8.toNat_inj.1 e)
  have := valF_ge r (0 * 10 + (c.toNat - 48))
  unfold Dig at hd
  unfold val valF
  omega
theorem dec_of : ∀ (n : Nat) (l : T), l.length ≤ n → Num l → Lib.decDigits (val l) = l
 | 0, l, h, hn => absurd (List.eq_nil_of_length_eq_zero (by omega)) hn.1
 | n + 1, l, h, hn => by
  obtain ⟨r, c, rfl⟩ : ∃ r c, l = r ++ [c] := ⟨l.dropLast, l.getLast hn.1, (List.dropLast_concat_getLast hn.1).symm⟩
  have hd := hn.2.2 c (by simp)
  by_cases hr : r = []
  ·
   subst hr
   have e : val ([] ++ [c]) = c.toNat - 48 := by unfold val; rw [List.nil_append]; unfold valF valF; omega
   rw [e, d_small (by unfold Dig at hd; omega), dig_back hd]
   rfl
  ·
   have hnr : Num r := by
    refine ⟨hr, fun hh => ?_, fun x hx => hn.2.2 x (List.mem_append_left _ hx)⟩
    exfalso
    have h1 := hn.2.1 (by
     cases r with
     | nil => exact absurd rfl hr
     | cons x s => simpa using hh)
    have h2 := congrArg List.length h1
    rw [List.length_append, List.length_singleton, List.length_singleton] at h2
    exact hr (List.eq_nil_of_length_eq_zero (by omega))
   have ih := dec_of n r (by rw [List.length_append, List.length_singleton] at h; omega) hnr
   have hp : r ≠ [48] := fun e => by
    subst e
    have h1 := hn.2.1 rfl
    have h2 := congrArg List.length h1
    simp at h2
   have h1 := val_pos r hnr hp
   have e : val (r ++ [c]) = val r * 10 + (c.toNat - 48) := valF_snoc c r 0
   unfold Dig at hd
   rw [e, d_big (by omega), show (val r * 10 + (c.toNat - 48)) / 10 = val r by omega, show (val r * 10 + (c.toNat - 48)) % 10 = c.toNat - 48 by omega, ih, dig_back hd]
theorem parseM {M : Nat} (hM : M = 18446744073709551615) : ∀ (l : T) (acc : Nat), (∀ c ∈ l, Dig c) → acc ≤ M → Lib.parseUintM M acc l = if valF acc l ≤ M then .ok (valF acc l) else .range
 | [], acc, _, ha => by unfold Lib.parseUintM valF; rw [if_pos ha]
 | c :: r, acc, hd, ha => by
  have hc := hd c List.mem_cons_self
  have hr : ∀ x ∈ r, Dig x := fun x hx => hd x (List.mem_cons_of_mem _ hx)
  have hge := valF_ge r (acc * 10 + (c.toNat - 48))
  unfold Lib.parseUintM
  rw [if_pos (show 48 ≤ c.toNat ∧ c.toNat ≤ 57 from hc)]
  have ev : valF acc (c :: r) = valF (acc * 10 + (c.toNat - 48)) r := rfl
  rw [ev]
  by_cases h1 : 1844674407370955162 ≤ acc
  ·
   rw [if_pos h1, if_neg (by omega)]
  ·
   rw [if_neg h1]
   by_cases h2 : M < acc * 10 + (c.toNat - 48)
   ·
    rw [if_pos h2, if_neg (by omega)]
   ·
    rw [if_neg h2]
    exact parseM hM r _ hr (by omega)
end Go.Proofs.YtkplklfmhieoaaaDoor.Decs
end
section
namespace Go.Proofs.YtkplklfmhieoaaaDoor.Pure
open Go.RowKit Go.Proofs.YtkplklfmhieoaaaDoor.X Go.Proofs.YtkplklfmhieoaaaDoorW.PrintWords Go.Proofs.YtkplklfmhieoaaaDoorW.PrintLast Go.Proofs.YtkplklfmhieoaaaDoorW.PrintMore Go.Proofs.YtkplklfmhieoaaaDoor.Aid Go.Proofs.YtkplklfmhieoaaaDoor.Bytes Go.Proofs.YtkplklfmhieoaaaDoor.Decs
set_option linter.unusedVariables false
instance (l : T) : Decidable (Num l) := inferInstanceAs (Decidable (_ ∧ _ ∧ _))
def digL : T := [48, 49, 50, 51, 52, 53, 54, 55, 56, 57]
theorem dig_ok (b : UInt8) : digL.contains b = decide (Dig b) := byte_all (p := fun b => digL.contains b = decide (Dig b)) (by decide +kernel) b
def strip (l : T) : T := if l.head? = some 45 then l.drop 1 else l
theorem prefix_eq (l : T) : strings_TrimPrefix.f (mk l) (⟨#[45]⟩ : ByteArray) = some (mk (strip l)) := by
 unfold strings_TrimPrefix.f stringslite_TrimPrefix.f stringslite_HasPrefix.f strip
 have e1 : ((⟨#[45]⟩ : ByteArray).size : Int) = 1 := rfl
 rw [e1]
 cases l with
 | nil => rfl
 | cons c r =>
  have es : ((mk (c :: r)).size : Int) = (r.length : Int) + 1 := by rw [mk_size, List.length_cons]; omega
  have ei : ((1 : Int)).toNat = 1 := rfl
  have et : (⟨#[45]⟩ : ByteArray).toList = [45] := mk_toList [45]
  rw [es, if_pos (by omega), if_pos (by omega), if_pos (by omega), ei, mk_upto, mk_toList, et, Option.bind_some]
  by_cases h : c = 45
  ·
   subst h
   rw [if_pos (by rfl), if_pos (by omega), if_pos (by omega), mk_from]
   rfl
  ·
   rw [if_neg (by simpa using h)]
   simp [h]
theorem trim_eq {l : T} (hl : l.length ≤ 100000) : strings_Trim.f (mk l) (⟨#[48, 49, 50, 51, 52, 53, 54, 55, 56, 57]⟩ : ByteArray) = some (mk (Lib.trimS l digL)) := by
 unfold strings_Trim.f
 rw [show (⟨#[48, 49, 50, 51, 52, 53, 54, 55, 56, 57]⟩ : ByteArray) = mk digL from rfl, mk_size, mk_size, mk_data, mk_data, if_pos ⟨by omega, by decide, by decide +kernel⟩]
 rfl
theorem trim_dig (l : T) : ((mk (Lib.trimS l digL)).toList == ([] : T)) = decide (∀ c ∈ l, Dig c) := by
 rw [mk_toList, Bool.eq_iff_iff, beq_iff_eq, trim_nil, decide_eq_true_iff, List.all_eq_true]
 constructor
 ·
  intro h c hc
  have := h c hc
  rw [dig_ok] at this
  exact of_decide_eq_true this
 ·
  intro h c hc
  rw [dig_ok]
  exact decide_eq_true (h c hc)
theorem digits_eq {l : T} (hl : l.length ≤ 100000) : sat_digits.f (mk l) = some (decide (Num l)) := by
 unfold sat_digits.f
 rw [trim_eq hl, Option.bind_some, trim_dig, mk_toList]
 cases l with
 | nil => rfl
 | cons c r =>
  have hb : bt (mk (c :: r)) 0 = (c.toNat : Int) := bt_mk (l := c :: r) (i := 0) (by simp)
  rw [if_neg (by simp), mk_size, if_pos (by rw [List.length_cons]; omega), hb]
  by_cases h : c = 48
  ·
   subst h
   rw [if_pos (by rfl)]
   by_cases h2 : (48 :: r : T) = [48]
   ·
    rw [if_pos h2, h2]
    rfl
   ·
    rw [if_neg h2]
    congr 1
    symm
    exact decide_eq_false fun hn => h2 (hn.2.1 rfl)
  ·
   have h' : ¬ (c.toNat : Int) = 48 := fun e => h (byte_eq.mp (show (c.toNat : Int) = ((48 : UInt8).toNat : Int) from e))
   rw [if_neg h']
   congr 1
   apply decide_eq_decide.mpr
   constructor
   ·
    intro hd
    exact ⟨by simp, fun e => absurd (by simpa using e) h, hd⟩
   ·
    intro hn
    exact hn.2.2
def finS (neg : Bool) (u : Nat) : Int × Int :=
 if neg = true then (if u ≤ 9223372036854775808 then (-(u : Int), 0) else (0, 3)) else (if u < 9223372036854775808 then ((u : Int), 0) else (0, 3))
theorem finS_t (u : Nat) : finS true u = if u ≤ 9223372036854775808 then (-(u : Int), 0) else (0, 3) := rfl
theorem finS_f (u : Nat) : finS false u = if u < 9223372036854775808 then ((u : Int), 0) else (0, 3) := rfl
def readS (l : T) : Int × Int :=
 if Num (strip l) ∧ l ≠ [45, 48] then finS (decide (l.head? = some 45)) (val (strip l)) else (0, 2)
theorem parse_dig {l : T} (h : Num l) : Lib.parseUintB 64 l = if val l ≤ 18446744073709551615 then .ok (val l) else .range := by
 unfold Lib.parseUintB
 rw [if_neg h.1, parseM (by decide) l 0 h.2.2 (by decide)]
 rfl
def endI : Lib.NumEnd Int → Int × Int
 | .ok v => (v, 0)
 | _ => (0, 3)
theorem pb_neg (r : T) : Lib.parseIntB 64 (45 :: r) = (match Lib.parseUintB 64 r with | .ok u => if 2 ^ 63 < u then Lib.NumEnd.range else .ok (-(u : Int)) | .range => .range | _ => Lib.NumEnd.syntax) := by
 unfold Lib.parseIntB
 have e45 : (45 : UInt8).toNat = 45 := rfl
 simp only [e45]
 rw [if_pos (.inr trivial)]
 cases Lib.parseUintB 64 r with
 | ok u =>
  simp only []
  rw [if_neg (fun h => h.1 trivial)]
  simp
 | range => rfl
 | _ => rfl
theorem pb_pos {c : UInt8} {r : T} (h1 : c.toNat ≠ 43) (h2 : c.toNat ≠ 45) : Lib.parseIntB 64 (c :: r) = (match Lib.parseUintB 64 (c :: r) with | .ok u => if 2 ^ 63 ≤ u then Lib.NumEnd.range else .ok (u : Int) | .range => .range | _ => Lib.NumEnd.syntax) := by
 unfold Lib.parseIntB
 simp only []
 rw [if_neg (fun h => h.elim h1 h2)]
 cases Lib.parseUintB 64 (c :: r) with
 | ok u => simp [h2]
 | range => rfl
 | _ => rfl
theorem parseI {l : T} (h : Num (strip l)) : endI (Lib.parseIntB 64 l) = finS (decide (l.head? = some 45)) (val (strip l)) := by
 cases l with
 | nil => exact absurd rfl h.1
 | cons c r =>
  by_cases hc : c = 45
  ·
   subst hc
   have es : strip (45 :: r) = r := rfl
   rw [es] at h ⊢
   have ed : decide ((45 :: r : T).head? = some 45) = true := rfl
   rw [pb_neg, parse_dig h, ed, finS_t]
   by_cases h1 : val r ≤ 18446744073709551615
   ·
    rw [if_pos h1]
    simp only []
    by_cases h2 : val r ≤ 9223372036854775808
    ·
     rw [if_pos h2, if_neg (by omega)]
     rfl
    ·
     rw [if_neg h2, if_pos (by omega)]
     rfl
   ·
    rw [if_neg h1, if_neg (by omega)]
    rfl
  ·
   have es : strip (c :: r) = c :: r := by unfold strip; rw [if_neg (by simpa using hc)]
   rw [es] at h ⊢
   have hd := h.2.2 c List.mem_cons_self
   unfold Dig at hd
   have ed : decide ((c :: r).head? = some 45) = false := decide_eq_false (by simpa using hc)
   rw [pb_pos (by omega) (by omega), parse_dig h, ed, finS_f]
   by_cases h1 : val (c :: r) ≤ 18446744073709551615
   ·
    rw [if_pos h1]
    simp only []
    by_cases h2 : val (c :: r) < 9223372036854775808
    ·
     rw [if_pos h2, if_neg (by omega)]
     rfl
    ·
     rw [if_neg h2, if_pos (by omega)]
     rfl
   ·
    rw [if_neg h1, if_neg (by omega)]
    rfl
theorem strip_len (l : T) : (strip l).length ≤ l.length := by
 unfold strip
 split
 ·
  rw [List.length_drop]; omega
 ·
  omega
theorem read_eq {l : T} (hl : l.length ≤ 100000) : sat_Read.f (mk l) = some (readS l) := by
 unfold sat_Read.f readS
 rw [prefix_eq, Option.bind_some, digits_eq (by have := strip_len l; omega), Option.bind_some, mk_toList, mk_size, mk_data]
 by_cases h : Num (strip l)
 ·
  rw [if_pos (decide_eq_true h)]
  by_cases h2 : l = [45, 48]
  ·
   rw [if_pos h2, if_neg (fun h => h.2 h2)]
  ·
   rw [if_neg h2, if_pos (show l.length ≤ 140737488355328 by omega), if_pos ⟨h, h2⟩, ← parseI h]
   cases Lib.parseIntB 64 l with
   | ok v => rfl
   | _ => rfl
 ·
  rw [if_neg (by simpa using h), if_neg (fun g => h g.1)]
theorem read_itoa {n : Int} (h : I64 n) : readS (Lib.itoa n) = (n, 0) := by
 unfold I64 at h
 rw [itoa_sgn]
 unfold readS sgn
 have hn := num_dec n.natAbs
 have hv := dec_val n.natAbs
 by_cases hs : n < 0
 ·
  have es : strip ([45] ++ Lib.decDigits n.natAbs) = Lib.decDigits n.natAbs := rfl
  rw [if_pos hs, es, hv, if_pos ⟨hn, fun e => by
   have e2 : Lib.decDigits n.natAbs = [48] := by simpa using e
   rw [e2] at hv
   have : val [48] = 0 := rfl
   omega⟩]
  unfold finS
  rw [if_pos (by rfl), if_pos (by omega), show -(n.natAbs : Int) = n by omega]
 ·
  rw [if_neg hs, List.nil_append]
  have hh : ¬ (Lib.decDigits n.natAbs).head? = some 45 := fun e => by
   have := hn.2.2 45 (List.mem_of_mem_head? (by rw [e]; rfl))
   exact absurd this (by decide)
  have es : strip (Lib.decDigits n.natAbs) = Lib.decDigits n.natAbs := by unfold strip; rw [if_neg hh]
  rw [es, hv, if_pos ⟨hn, fun e => hh (by rw [e]; rfl)⟩, decide_eq_false hh]
  unfold finS
  rw [if_neg (by decide), if_pos (by omega), show (n.natAbs : Int) = n by omega]
theorem read_back {l : T} (h : (readS l).2 = 0) : I64 (readS l).1 ∧ Lib.itoa (readS l).1 = l := by
 unfold readS at h ⊢
 by_cases hn : Num (strip l) ∧ l ≠ [45, 48]
 ·
  rw [if_pos hn] at h ⊢
  unfold finS at h ⊢
  by_cases hh : l.head? = some 45
  ·
   obtain ⟨r, rfl⟩ : ∃ r, l = 45 :: r := by
    cases l with
    | nil => exact absurd hh (by simp)
    | cons c r =>
     refine ⟨r, ?_⟩
     rw [show c = 45 by simpa using hh]
   have es : strip (45 :: r) = r := rfl
   rw [es] at hn h ⊢
   rw [if_pos (by rfl)] at h ⊢
   by_cases hv : val r ≤ 9223372036854775808
   ·
    rw [if_pos hv]
    have hp := val_pos r hn.1 (fun e => hn.2 (by rw [e]))
    refine ⟨by unfold I64; show _ ≤ -(val r : Int) ∧ -(val r : Int) ≤ _; omega, ?_⟩
    show Lib.itoa (-(val r : Int)) = _
    rw [itoa_sgn]
    unfold sgn
    rw [if_pos (by omega), show (-(val r : Int)).natAbs = val r by omega, dec_of r.length r (Nat.le_refl _) hn.1]
    rfl
   ·
    rw [if_neg hv] at h
    exact absurd h (by decide)
  ·
   have es : strip l = l := by unfold strip; rw [if_neg hh]
   rw [es] at hn h ⊢
   rw [if_neg (by simpa using hh)] at h ⊢
   by_cases hv : val l < 9223372036854775808
   ·
    rw [if_pos hv]
    refine ⟨by unfold I64; show _ ≤ (val l : Int) ∧ (val l : Int) ≤ _; omega, ?_⟩
    show Lib.itoa (val l : Int) = _
    rw [itoa_sgn]
    unfold sgn
    rw [if_neg (by omega), show ((val l : Int)).natAbs = val l by omega, dec_of l.length l (Nat.le_refl _) hn.1]
    rfl
   ·
    rw [if_neg hv] at h
    exact absurd h (by decide)
 ·
  rw [if_neg hn] at h
  exact absurd h (by decide)
end Go.Proofs.YtkplklfmhieoaaaDoor.Pure
end
section
namespace Go.Proofs.YtkplklfmhieoaaaDoor.Pure
open Go.RowKit Go.Proofs.YtkplklfmhieoaaaDoor.X Go.Proofs.YtkplklfmhieoaaaDoorW.PrintWords Go.Proofs.YtkplklfmhieoaaaDoorW.PrintLast Go.Proofs.YtkplklfmhieoaaaDoorW.PrintMore Go.Proofs.YtkplklfmhieoaaaDoor.Aid Go.Proofs.YtkplklfmhieoaaaDoor.Bytes
set_option linter.unusedVariables false
abbrev Ev := S36
def chunkW : T := [99, 104, 117, 110, 107]
def tickW : T := [116, 105, 99, 107]
def pickW : T := [112, 105, 99, 107]
def kword (a : Int) : T := if a = 1 then chunkW else if a = 2 then tickW else pickW
def kmost (a : Int) : Int := if a = 1 then 3 else 1000000000000
theorem of_eq (a : Int) : script_of.f a = some (if 1 ≤ a ∧ a ≤ 3 then (mk (kword a), kmost a, decide (a = 1), true) else (mk [], 0, false, false)) := by
 unfold script_of.f script_kinds.f
 simp only [Option.bind_some]
 by_cases h1 : a < 1
 ·
  rw [if_pos h1, if_neg (by omega)]
  rfl
 ·
  rw [if_neg h1]
  by_cases h2 : a > 3
  ·
   rw [if_pos (by simpa using h2), if_neg (by omega)]
   rfl
  ·
   rw [if_neg (by simpa using h2), if_pos (show 1 ≤ a ∧ a ≤ 3 by omega)]
   have h3 : a = 1 ∨ a = 2 ∨ a = 3 := by omega
   have w1 : wrap64 (1 - 1) = 0 := w64 (a := 1 - 1) (by omega) (by omega)
   have w2 : wrap64 (2 - 1) = 1 := w64 (a := 2 - 1) (by omega) (by omega)
   have w3 : wrap64 (3 - 1) = 2 := w64 (a := 3 - 1) (by omega) (by omega)
   rcases h3 with rfl | rfl | rfl
   ·
    rw [w1]
    rfl
   ·
    rw [w2]
    rfl
   ·
    rw [w3]
    rfl
def mayE (e : Ev) : Bool := decide (1 ≤ e.f0 ∧ e.f0 ≤ 3) && (decide (0 ≤ e.f1) && (decide (e.f1 ≤ kmost e.f0) && (decide (e.f0 = 1) || decide (e.f2 = []))))
theorem may_iff (e : Ev) : mayE e = true ↔ (1 ≤ e.f0 ∧ e.f0 ≤ 3) ∧ 0 ≤ e.f1 ∧ e.f1 ≤ kmost e.f0 ∧ (e.f0 = 1 ∨ e.f2 = []) := by
 unfold mayE
 simp only [Bool.and_eq_true, Bool.or_eq_true, decide_eq_true_eq]
def GE (e : Ev) : Prop := I64 e.f1 ∧ (∀ c ∈ e.f2, 0 ≤ c ∧ c < 256) ∧ e.f2.length ≤ 20000
end Go.Proofs.YtkplklfmhieoaaaDoor.Pure
end
section
namespace Go.Proofs.YtkplklfmhieoaaaDoor.Pure
open Go.RowKit Go.Proofs.YtkplklfmhieoaaaDoor.X Go.Proofs.YtkplklfmhieoaaaDoorW.PrintWords Go.Proofs.YtkplklfmhieoaaaDoorW.PrintLast Go.Proofs.YtkplklfmhieoaaaDoorW.PrintMore Go.Proofs.YtkplklfmhieoaaaDoor.Aid Go.Proofs.YtkplklfmhieoaaaDoor.Bytes
set_option linter.unusedVariables false
def hexD : T := [48, 49, 50, 51, 52, 53, 54, 55, 56, 57, 97, 98, 99, 100, 101, 102]
def hexC (c : Int) : T := [hexD.getD (c.toNat / 16) 0, hexD.getD (c.toNat % 16) 0]
def hexL (l : List Int) : T := (l.map hexC).flatten
theorem hexL_cons (c : Int) (l : List Int) : hexL (c :: l) = hexC c ++ hexL l := rfl
theorem hexL_len : ∀ l : List Int, (hexL l).length = 2 * l.length
 | [] => rfl
 | c :: l => by
  rw [hexL_cons, List.length_append, hexL_len l, List.length_cons]
  have : (hexC c).length = 2 := rfl
  omega
def hx (l : List Int) : T := if l = [] then [45] else hexL l
def Byt (l : List Int) : Prop := ∀ c ∈ l, 0 ≤ c ∧ c < 256
def hv (c : UInt8) : Int := Lib.indexByte hexD c
theorem hv_all (c : UInt8) : hexD.contains c = true → (0 ≤ hv c ∧ hv c < 16) ∧ hexD.getD (hv c).toNat 0 = c :=
 byte_all (p := fun c => hexD.contains c = true → (0 ≤ hv c ∧ hv c < 16) ∧ hexD.getD (hv c).toNat 0 = c) (by decide +kernel) c
theorem hv_dig : ∀ i : Nat, i < 16 → hv (hexD.getD i 0) = (i : Int) ∧ hexD.contains (hexD.getD i 0) = true := by decide +kernel
theorem or16 {a b : Int} (ha : 0 ≤ a ∧ a < 16) (hb : 0 ≤ b ∧ b < 16) : (Go.bits .or .i64 (wrap64 (a * 16)) b) % 256 = a * 16 + b := by
 have g : ∀ m n : Fin 16, (Go.bits .or .i64 (((m.val : Nat) : Int) * 16) ((n.val : Nat) : Int)) % 256 = ((m.val : Nat) : Int) * 16 + ((n.val : Nat) : Int) := by decide +kernel
 have := g ⟨a.toNat, by omega⟩ ⟨b.toNat, by omega⟩
 simp only [Int.toNat_of_nonneg ha.1, Int.toNat_of_nonneg hb.1] at this
 rw [w64 (by omega) (by omega)]
 exact this
def prsH : T → List Int
 | a :: b :: l => (hv a * 16 + hv b) :: prsH l
 | _ => []
def dataS (s : T) : Option (List Int) :=
 if s = [45] then some [] else if s = [] then none else if s.length % 2 ≠ 0 then none else if s.all (fun b => hexD.contains b) = true then some (prsH s) else none
theorem prsH_len : ∀ (n : Nat) (s : T), s.length = 2 * n → (prsH s).length = n
 | 0, s, h => by
  rw [List.length_eq_zero_iff.1 (by omega : s.length = 0)]
  rfl
 | n + 1, s, h => by
  match s, h with
  | a :: b :: l, h =>
   rw [prsH, List.length_cons, prsH_len n l (by simpa using by simp only [List.length_cons] at h; omega)]
theorem prsH_at : ∀ (i : Nat) (s : T) (h : 2 * i + 1 < s.length) (h2 : i < (prsH s).length), (prsH s)[i] = hv (s[2 * i]'(by omega)) * 16 + hv (s[2 * i + 1])
 | 0, a :: b :: l, h, h2 => rfl
 | i + 1, a :: b :: l, h, h2 => by
  have := prsH_at i l (by simp only [List.length_cons] at h; omega) (by rw [prsH, List.length_cons] at h2; omega)
  simp only [prsH, List.getElem_cons_succ]
  rw [this]
  rfl
theorem set_next {a b : List Int} {n : Nat} {x : Int} (h : a.length = n) : (a ++ b).set n x = a ++ b.set 0 x := by
 subst h
 rw [List.set_append_right _ _ (Nat.le_refl _), Nat.sub_self]
theorem data_l0 {s : T} (hs : s.length ≤ 100000) {n : Nat} (hn : s.length = 2 * n) (ha : ∀ c ∈ s, hexD.contains c = true) (d : Nat) : ∀ (i k : Nat), i + d = n → d < k →
 script_data.l0 k (mk s) ((prsH s).take i ++ List.replicate d 0) (n : Int) (i : Int) = some (prsH s, true) := by
 have hp := prsH_len n s hn
 induction d with
 | zero =>
  intro i k hi hk
  obtain ⟨k, rfl⟩ := succ_of hk
  simp only [script_data.l0]
  rw [if_neg (by omega), List.replicate_zero, List.append_nil, List.take_of_length_le (by omega)]
 | succ d ih =>
  intro i k hi hk
  obtain ⟨k, rfl⟩ := succ_of hk
  have h1 : 2 * i < s.length := by omega
  have h2 : 2 * i + 1 < s.length := by omega
  have e1 : wrap64 (2 * (i : Int)) = ((2 * i : Nat) : Int) := by
   rw [w64 (by omega) (by omega)]
   omega
  have e2 : wrap64 (((2 * i : Nat) : Int) + 1) = ((2 * i + 1 : Nat) : Int) := w64s (by omega)
  have a1 := (hv_all _ (ha _ (List.getElem_mem h1))).1
  have a2 := (hv_all _ (ha _ (List.getElem_mem h2))).1
  have b1 : strings_IndexByte.f (⟨#[48, 49, 50, 51, 52, 53, 54, 55, 56, 57, 97, 98, 99, 100, 101, 102]⟩ : ByteArray) (bt (mk s) ((2 * i : Nat) : Int)) = some (hv s[2 * i]) := by
   rw [bt_mk h1]
   unfold strings_IndexByte.f hv
   rw [byte_back]
   rfl
  have b2 : strings_IndexByte.f (⟨#[48, 49, 50, 51, 52, 53, 54, 55, 56, 57, 97, 98, 99, 100, 101, 102]⟩ : ByteArray) (bt (mk s) ((2 * i + 1 : Nat) : Int)) = some (hv s[2 * i + 1]) := by
   rw [bt_mk h2]
   unfold strings_IndexByte.f hv
   rw [byte_back]
   rfl
  have ht : ((prsH s).take i).length = i := by rw [List.length_take]; omega
  simp only [script_data.l0]
  rw [e1, e2, mk_size, if_pos (by omega), if_pos (by omega), if_pos (by omega), b1]
  simp only [Option.bind_some]
  rw [if_pos (by omega), if_pos (by omega), b2]
  simp only [Option.bind_some, Int.toNat_natCast]
  rw [if_pos (by omega), if_pos (by rw [List.length_append, ht, List.length_replicate]; omega), or16 a1 a2, w64s (by omega), set_next ht, List.replicate_succ, List.set_cons_zero]
  have hi2 : i < (prsH s).length := by omega
  have h3 := ih (i + 1) k (by omega) (by omega)
  rw [take_at hi2, prsH_at i s h2 hi2, List.append_assoc] at h3
  exact h3
theorem trimH_eq {l : T} (hl : l.length ≤ 100000) : strings_Trim.f (mk l) (⟨#[48, 49, 50, 51, 52, 53, 54, 55, 56, 57, 97, 98, 99, 100, 101, 102]⟩ : ByteArray) = some (mk (Lib.trimS l hexD)) := by
 unfold strings_Trim.f
 rw [show (⟨#[48, 49, 50, 51, 52, 53, 54, 55, 56, 57, 97, 98, 99, 100, 101, 102]⟩ : ByteArray) = mk hexD from rfl, mk_size, mk_size, mk_data, mk_data, if_pos ⟨by omega, by decide, by decide +kernel⟩]
 rfl
def outD : Option (List Int) → List Int × Bool
 | some d => (d, true)
 | none => ([], false)
theorem data_j0t (s : ByteArray) {k : Nat} (hk : 0 < k) : script_data.j0 k s true = some ([], false) := by
 obtain ⟨k, rfl⟩ := succ_of hk
 simp only [script_data.j0]
 rfl
theorem data_eq {s : T} (hs : s.length ≤ 100000) {k : Nat} (hk : 100000 < k) : script_data.f k (mk s) = some (outD (dataS s)) := by
 unfold script_data.f dataS
 rw [mk_toList, mk_size]
 by_cases h1 : s = [45]
 ·
  rw [if_pos h1, if_pos h1]
  rfl
 ·
  rw [if_neg h1, if_neg h1]
  by_cases h2 : s = []
  ·
   rw [if_pos h2, if_pos h2, data_j0t _ (by omega)]
   rfl
  ·
   rw [if_neg h2, if_neg h2]
   by_cases h3 : s.length % 2 ≠ 0
   ·
    rw [if_pos (by omega), if_pos h3, data_j0t _ (by omega)]
    rfl
   ·
    rw [if_neg (by omega), if_neg h3, trimH_eq hs]
    simp only [Option.bind_some, mk_toList]
    by_cases h4 : s.all (fun b => hexD.contains b) = true
    ·
     have e : (Lib.trimS s hexD != ([] : T)) = false := by
      rw [(trim_nil s hexD).2 h4]
      rfl
     rw [if_pos h4, e]
     obtain ⟨k, rfl⟩ := succ_of hk
     obtain ⟨n, hn⟩ : ∃ n, s.length = 2 * n := ⟨s.length / 2, by omega⟩
     have e2 : wrap64 ((s.length : Int) / 2) = (n : Int) := by
      rw [w64 (by omega) (by omega)]
      omega
     simp only [script_data.j0, mk_size, e2, Int.toNat_natCast, Option.bind_some, List.length_replicate]
     rw [if_neg (by simp), if_pos (by omega), if_pos (by omega)]
     have := data_l0 hs hn (fun c hc => List.all_eq_true.1 h4 c hc) n 0 k (by omega) (by omega)
     rw [List.take_zero, List.nil_append] at this
     exact this
    ·
     have e : (Lib.trimS s hexD != ([] : T)) = true := by
      rw [bne_iff_ne]
      exact fun h => h4 ((trim_nil s hexD).1 h)
     rw [if_neg h4, e, data_j0t _ (by omega)]
     rfl
theorem hexC_all {c : Int} (h : 0 ≤ c ∧ c < 256) : (∀ x ∈ hexC c, hexD.contains x = true) ∧ ∀ l : T, prsH (hexC c ++ l) = c :: prsH l := by
 have h1 := hv_dig (c.toNat / 16) (by omega)
 have h2 := hv_dig (c.toNat % 16) (by omega)
 refine ⟨fun x hx => ?_, fun l => ?_⟩
 ·
  unfold hexC at hx
  rcases List.mem_cons.1 hx with rfl | hx
  ·
   exact h1.2
  ·
   rw [List.mem_singleton.1 hx]
   exact h2.2
 ·
  show (hv _ * 16 + hv _) :: prsH l = _
  rw [h1.1, h2.1]
  congr 1
  omega
theorem hexL_all : ∀ {l : List Int}, Byt l → (∀ x ∈ hexL l, hexD.contains x = true) ∧ prsH (hexL l) = l
 | [], _ => ⟨(fun x hx => by cases hx), rfl⟩
 | c :: l, h => by
  have h1 := hexC_all (h c List.mem_cons_self)
  have h2 := hexL_all (l := l) (fun x hx => h x (List.mem_cons_of_mem _ hx))
  rw [hexL_cons]
  refine ⟨fun x hx => ?_, by rw [h1.2, h2.2]⟩
  rcases List.mem_append.1 hx with hx | hx
  ·
   exact h1.1 x hx
  ·
   exact h2.1 x hx
theorem data_hx {l : List Int} (h : Byt l) : dataS (hx l) = some l := by
 cases l with
 | nil => rfl
 | cons c r =>
  have e : hx (c :: r) = hexL (c :: r) := if_neg (by simp)
  have h1 := hexL_all h
  have hl := hexL_len (c :: r)
  rw [List.length_cons] at hl
  have n1 : hexL (c :: r) ≠ [45] := fun e => by rw [e] at hl; simp only [List.length_cons, List.length_nil] at hl; omega
  have n2 : hexL (c :: r) ≠ [] := fun e => by rw [e] at hl; simp only [List.length_nil] at hl; omega
  rw [e]
  unfold dataS
  rw [if_neg n1, if_neg n2, if_neg (by omega), if_pos (List.all_eq_true.2 h1.1), h1.2]
theorem prsH_back : ∀ (n : Nat) (s : T), s.length = 2 * n → (∀ c ∈ s, hexD.contains c = true) → hexL (prsH s) = s ∧ Byt (prsH s)
 | 0, s, h, _ => by
  rw [List.length_eq_zero_iff.1 (by omega : s.length = 0)]
  exact ⟨rfl, fun c hc => by cases hc⟩
 | n + 1, s, h, ha => by
  match s, h, ha with
  | a :: b :: l, h, ha =>
   have h1 := hv_all a (ha a (by simp))
   have h2 := hv_all b (ha b (by simp))
   have h3 := prsH_back n l (by simp only [List.length_cons] at h; omega) (fun c hc => ha c (by simp [hc]))
   have e1 : (hv a * 16 + hv b).toNat / 16 = (hv a).toNat := by omega
   have e2 : (hv a * 16 + hv b).toNat % 16 = (hv b).toNat := by omega
   rw [prsH, hexL_cons, h3.1]
   refine ⟨?_, fun c hc => ?_⟩
   ·
    unfold hexC
    rw [e1, e2, h1.2, h2.2]
    rfl
   ·
    rcases List.mem_cons.1 hc with rfl | hc
    ·
     omega
    ·
     exact h3.2 c hc
theorem data_back {s : T} {d : List Int} (h : dataS s = some d) : hx d = s ∧ Byt d ∧ d.length ≤ s.length := by
 unfold dataS at h
 by_cases h1 : s = [45]
 ·
  rw [if_pos h1] at h
  obtain rfl := Option.some.inj h
  exact ⟨h1.symm, (fun c hc => by cases hc), Nat.zero_le _⟩
 ·
  rw [if_neg h1] at h
  by_cases h2 : s = []
  ·
   rw [if_pos h2] at h
   cases h
  ·
   rw [if_neg h2] at h
   by_cases h3 : s.length % 2 ≠ 0
   ·
    rw [if_pos h3] at h
    cases h
   ·
    rw [if_neg h3] at h
    by_cases h4 : s.all (fun b => hexD.contains b) = true
    ·
     rw [if_pos h4] at h
     obtain rfl := Option.some.inj h
     obtain ⟨n, hn⟩ : ∃ n, s.length = 2 * n := ⟨s.length / 2, by omega⟩
     have hb := prsH_back n s hn (fun c hc => List.all_eq_true.1 h4 c hc)
     have hp := prsH_len n s hn
     refine ⟨?_, hb.2, by omega⟩
     unfold hx
     rw [if_neg (fun e => by rw [e] at hp; have h0 : n = 0 := hp.symm; exact h2 (List.length_eq_zero_iff.1 (by omega))), hb.1]
    ·
     rw [if_neg h4] at h
     cases h
end Go.Proofs.YtkplklfmhieoaaaDoor.Pure
end
section
namespace Go.Proofs.YtkplklfmhieoaaaDoor.Pure
open Go.RowKit Go.Proofs.YtkplklfmhieoaaaDoor.X Go.Proofs.YtkplklfmhieoaaaDoorW.PrintWords Go.Proofs.YtkplklfmhieoaaaDoorW.PrintLast Go.Proofs.YtkplklfmhieoaaaDoorW.PrintMore Go.Proofs.YtkplklfmhieoaaaDoor.Aid Go.Proofs.YtkplklfmhieoaaaDoor.Bytes
set_option linter.unusedVariables false
def wordsE (e : Ev) : List T := if e.f0 = 1 then [kword e.f0, Lib.itoa e.f1, hx e.f2] else [kword e.f0, Lib.itoa e.f1]
def lineT (e : Ev) : T := Lib.join (wordsE e) [32]
def textT (l : List Ev) : T := (l.map fun e => lineT e ++ [10]).flatten
theorem textT_cons (e : Ev) (l : List Ev) : textT (e :: l) = lineT e ++ [10] ++ textT l := rfl
end Go.Proofs.YtkplklfmhieoaaaDoor.Pure
end
section
namespace Go.Proofs.YtkplklfmhieoaaaDoor.Pure
open Go.RowKit Go.Proofs.YtkplklfmhieoaaaDoor.X Go.Proofs.YtkplklfmhieoaaaDoorW.PrintWords Go.Proofs.YtkplklfmhieoaaaDoorW.PrintLast Go.Proofs.YtkplklfmhieoaaaDoorW.PrintMore Go.Proofs.YtkplklfmhieoaaaDoor.Aid Go.Proofs.YtkplklfmhieoaaaDoor.Bytes
set_option linter.unusedVariables false
open Go.Lib (index occAt NoOcc)
theorem occ_iff {s sub : T} {i : Nat} : occAt s sub i = true ↔ ∃ v, s.drop i = sub ++ v := by
 unfold occAt
 rw [List.isPrefixOf_iff_prefix]
 exact ⟨fun ⟨v, h⟩ => ⟨v, h.symm⟩, fun ⟨v, h⟩ => ⟨v, h.symm⟩⟩
theorem no_occ {a r t : T} {c : UInt8} (h : c ∉ a) : NoOcc (a ++ r) (c :: t) a.length := by
 intro j hj
 rw [Bool.eq_false_iff]
 intro e
 obtain ⟨v, hv⟩ := occ_iff.mp e
 rw [List.drop_append_of_le_length (by omega), drop_at hj, List.cons_append, List.cons_append] at hv
 injection hv with h1 _
 exact h (by rw [← h1]; exact List.getElem_mem hj)
theorem index_at {a t v : T} {c : UInt8} (h : c ∉ a) : index (a ++ ((c :: t) ++ v)) (c :: t) = (a.length : Int) :=
 Go.Lib.index_hit (no_occ h) (by rw [List.length_append]; omega) (occ_iff.mpr ⟨v, by rw [List.drop_left]⟩)
theorem index_no {a t : T} {c : UInt8} (h : c ∉ a) : index a (c :: t) = -1 := by
 have h2 := no_occ (r := []) (t := t) h
 rw [List.append_nil] at h2
 exact Go.Lib.index_past (by simp) h2 (by simp)
theorem first_at (c : UInt8) : ∀ p : T, c ∉ p ∨ ∃ a v, p = a ++ c :: v ∧ c ∉ a
 | [] => .inl (by simp)
 | x :: p => by
  by_cases h : x = c
  ·
   exact .inr ⟨[], p, by rw [h]; rfl, by simp⟩
  ·
   rcases first_at c p with h2 | ⟨a, v, e, h2⟩
   ·
    exact .inl (by rw [List.mem_cons, not_or]; exact ⟨fun e => h e.symm, h2⟩)
   ·
    exact .inr ⟨x :: a, v, by rw [e]; rfl, by rw [List.mem_cons, not_or]; exact ⟨fun e => h e.symm, h2⟩⟩
theorem cut_at {a v : T} {c : UInt8} (h : c ∉ a) : Lib.cut (a ++ c :: v) [c] = (a, v, true) := by
 have e := index_at (t := []) (v := v) h
 rw [show ([c] : T) ++ v = c :: v from rfl] at e
 unfold Lib.cut
 rw [e, if_pos (by omega), Int.toNat_natCast, List.take_left, List.length_singleton, ← List.drop_drop, List.drop_left]
 rfl
theorem cut_no {a : T} {c : UInt8} (h : c ∉ a) : Lib.cut a [c] = (a, [], false) := by
 unfold Lib.cut
 rw [index_no h, if_neg (by decide)]
def kd (w : T) : Int := if w = chunkW then 1 else if w = tickW then 2 else if w = pickW then 3 else 0
theorem kd_word {a : Int} (h : 1 ≤ a ∧ a ≤ 3) : kd (kword a) = a := by
 have h3 : a = 1 ∨ a = 2 ∨ a = 3 := by omega
 rcases h3 with rfl | rfl | rfl <;> decide
theorem kd_back {w : T} (h : kd w ≠ 0) : kword (kd w) = w ∧ 1 ≤ kd w ∧ kd w ≤ 3 := by
 unfold kd at h ⊢
 by_cases h1 : w = chunkW
 ·
  rw [if_pos h1, h1]
  decide
 ·
  rw [if_neg h1] at h ⊢
  by_cases h2 : w = tickW
  ·
   rw [if_pos h2, h2]
   decide
  ·
   rw [if_neg h2] at h ⊢
   by_cases h3 : w = pickW
   ·
    rw [if_pos h3, h3]
    decide
   ·
    rw [if_neg h3] at h
    exact absurd rfl h
def dEv : Ev := ⟨0, 0, []⟩
def badN (a : Int) (n : Nat) : Bool := if a = 1 then decide (n ≠ 3) else decide (n ≠ 2)
def evS (L : List T) : Ev × Int :=
 if kd (L.getD 0 []) = 0 then (dEv, 2)
 else if badN (kd (L.getD 0 [])) L.length = true then (dEv, 2)
 else if (readS (L.getD 1 [])).2 = 0 then
  (if (readS (L.getD 1 [])).1 < 0 then (dEv, 3) else if (readS (L.getD 1 [])).1 > kmost (kd (L.getD 0 [])) then (dEv, 3)
   else if kd (L.getD 0 []) = 1 then (match dataS (L.getD 2 []) with | some d => (⟨1, (readS (L.getD 1 [])).1, d⟩, 0) | none => (⟨1, (readS (L.getD 1 [])).1, []⟩, 2))
   else (⟨kd (L.getD 0 []), (readS (L.getD 1 [])).1, []⟩, 0))
 else (dEv, (readS (L.getD 1 [])).2)
theorem find_eq {L : List T} (hL : L ≠ []) : ∃ ks, script_kinds.f = some ks ∧ script_find.f ks (L.map mk) = some (kd (L.getD 0 []) - 1) := by
 refine ⟨_, rfl, ?_⟩
 unfold script_find.f
 cases L with
 | nil => exact absurd rfl hL
 | cons x L =>
  have e0 : rdOf ByteArray.empty ((x :: L).map mk) 0 = mk x := rds (L := x :: L) (i := 0) (by simp)
  rw [if_pos (by simp), e0, mk_toList]
  have g0 : (x :: L).getD 0 [] = x := rfl
  rw [g0]
  have t1 : ((⟨#[99, 104, 117, 110, 107]⟩ : ByteArray)).toList = chunkW := mk_toList chunkW
  have t2 : ((⟨#[116, 105, 99, 107]⟩ : ByteArray)).toList = tickW := mk_toList tickW
  have t3 : ((⟨#[112, 105, 99, 107]⟩ : ByteArray)).toList = pickW := mk_toList pickW
  unfold script_kind.idx
  simp only [t1]
  unfold kd
  by_cases h1 : x = chunkW
  ·
   rw [if_pos (by rw [h1]; exact beq_self_eq_true _), if_pos h1]
   rfl
  ·
   rw [if_neg (by simpa using fun h => h1 h.symm), if_neg h1]
   unfold script_kind.idx
   simp only [t2]
   by_cases h2 : x = tickW
   ·
    rw [if_pos (by rw [h2]; exact beq_self_eq_true _), if_pos h2]
    rfl
   ·
    rw [if_neg (by simpa using fun h => h2 h.symm), if_neg h2]
    unfold script_kind.idx
    simp only [t3]
    by_cases h3 : x = pickW
    ·
     rw [if_pos (by rw [h3]; exact beq_self_eq_true _), if_pos h3]
     rfl
    ·
     rw [if_neg (by simpa using fun h => h3 h.symm), if_neg h3]
     rfl
theorem kd_range (w : T) : 0 ≤ kd w ∧ kd w ≤ 3 := by
 by_cases h : kd w = 0
 ·
  omega
 ·
  have := kd_back h
  omega
theorem event_j0t (L : List ByteArray) (a : Int) (s : ByteArray) (m : Int) (b : Bool) {k : Nat} (hk : 0 < k) : script_event.j0 k L a true 0 0 s m b = some (0, 0, [], 2) := by
 obtain ⟨k, rfl⟩ := succ_of hk
 simp only [script_event.j0]
 rfl
theorem event_eq {L : List T} (hL : L ≠ []) (hp : ∀ p ∈ L, p.length ≤ 100000) {k : Nat} (hk : 100001 < k) :
 script_event.f k (L.map mk) = some ((evS L).1.f0, (evS L).1.f1, (evS L).1.f2, (evS L).2) := by
 obtain ⟨ks, hks, hf⟩ := find_eq hL
 unfold script_event.f evS
 rw [hks]
 simp only [Option.bind_some]
 rw [hf]
 simp only [Option.bind_some]
 have hr := kd_range (L.getD 0 [])
 generalize hkd : kd (L.getD 0 []) = a at hr ⊢
 have ew : wrap64 (a - 1 + 1) = a := by
  rw [w64 (by omega) (by omega)]
  omega
 rw [ew, of_eq]
 by_cases h0 : a = 0
 ·
  rw [if_neg (by omega), if_pos h0]
  simp only [Option.bind_some]
  rw [if_neg (by simp), event_j0t _ _ _ _ _ (by omega)]
  rfl
 ·
  have h13 : 1 ≤ a ∧ a ≤ 3 := by omega
  rw [if_pos h13, if_neg h0]
  simp only [Option.bind_some, if_true, List.length_map]
  have hflag : (if decide (a = 1) = true then (if (L.length : Int) = 3 then (script_event.j0 k (L.map mk) (a - 1) false 0 0 (mk (kword a)) (kmost a) (decide (a = 1))) else (script_event.j0 k (L.map mk) (a - 1) true 0 0 (mk (kword a)) (kmost a) (decide (a = 1)))) else (script_event.j0 k (L.map mk) (a - 1) ((L.length : Int) != 2) 0 0 (mk (kword a)) (kmost a) (decide (a = 1)))) = script_event.j0 k (L.map mk) (a - 1) (badN a L.length) 0 0 (mk (kword a)) (kmost a) (decide (a = 1)) := by
   unfold badN
   by_cases h1 : a = 1
   ·
    rw [if_pos (decide_eq_true h1), if_pos h1]
    by_cases h2 : L.length = 3
    ·
     have e : decide (L.length ≠ 3) = false := decide_eq_false (by omega)
     rw [if_pos (by omega), e]
    ·
     have e : decide (L.length ≠ 3) = true := decide_eq_true h2
     rw [if_neg (by omega), e]
   ·
    rw [if_neg (by simpa using h1), if_neg h1]
    congr 1
    by_cases h2 : L.length = 2
    ·
     have e : decide (L.length ≠ 2) = false := decide_eq_false (by omega)
     rw [e]
     exact bne_eq_false_iff_eq.2 (by omega)
    ·
     have e : decide (L.length ≠ 2) = true := decide_eq_true h2
     rw [e]
     exact bne_iff_ne.2 (by omega)
  rw [hflag]
  by_cases hb : badN a L.length = true
  ·
   rw [hb, if_pos rfl, event_j0t _ _ _ _ _ (by omega)]
   rfl
  ·
   rw [if_neg hb, Bool.eq_false_iff.2 hb]
   obtain ⟨k, rfl⟩ := succ_of hk
   have hlen : 1 < L.length ∧ (a = 1 → 2 < L.length) := by
    unfold badN at hb
    by_cases h1 : a = 1
    ·
     rw [if_pos h1, decide_eq_true_eq] at hb
     omega
    ·
     rw [if_neg h1, decide_eq_true_eq] at hb
     omega
   have e1 : L.getD 1 [] = L[1] := by rw [List.getD_eq_getElem?_getD, List.getElem?_eq_getElem hlen.1]; rfl
   have r1 : rdOf ByteArray.empty (L.map mk) 1 = mk L[1] := rds (L := L) (i := 1) hlen.1
   simp only [script_event.j0, List.length_map]
   rw [if_neg (by simp), if_pos (by omega), r1, read_eq (hp _ (List.getElem_mem hlen.1)), e1]
   simp only [Option.bind_some]
   by_cases h2 : (readS L[1]).2 = 0
   ·
    rw [if_pos h2, if_pos h2]
    by_cases h3 : (readS L[1]).1 < 0
    ·
     rw [if_pos h3, if_pos h3]
     rfl
    ·
     rw [if_neg h3, if_neg h3]
     by_cases h4 : (readS L[1]).1 > kmost a
     ·
      rw [if_pos h4, if_pos h4]
      rfl
     ·
      rw [if_neg h4, if_neg h4]
      by_cases h5 : a = 1
      ·
       have hl2 := hlen.2 h5
       have e2 : L.getD 2 [] = L[2] := by rw [List.getD_eq_getElem?_getD, List.getElem?_eq_getElem hl2]; rfl
       have r2 : rdOf ByteArray.empty (L.map mk) 2 = mk L[2] := rds (L := L) (i := 2) hl2
       rw [if_pos (decide_eq_true h5), if_pos h5, if_pos (by omega), r2, data_eq (hp _ (List.getElem_mem hl2)) (by omega), e2]
       simp only [Option.bind_some, ew]
       subst h5
       cases dataS L[2] with
       | none => rfl
       | some d => rfl
      ·
       rw [if_neg (by simpa using h5), if_neg h5, ew]
   ·
    rw [if_neg h2, if_neg h2]
    rfl
def prsL : List T → List Ev → List Ev × Int × Int
 | [], acc => (acc, 0, 0)
 | x :: r, acc => if r = [] ∧ x = [] then (acc, 0, 0) else if acc.length + 1 > 2000 then ([], (acc.length : Int) + 1, 4) else if r = [] then ([], (acc.length : Int) + 1, 2)
  else if (evS (spl 32 x)).2 = 0 then prsL r (acc ++ [(evS (spl 32 x)).1]) else ([], (acc.length : Int) + 1, (evS (spl 32 x)).2)
theorem prsL_cons (x : T) (r : List T) (acc : List Ev) : prsL (x :: r) acc = if r = [] ∧ x = [] then (acc, 0, 0) else if acc.length + 1 > 2000 then ([], (acc.length : Int) + 1, 4) else if r = [] then ([], (acc.length : Int) + 1, 2)
 else if (evS (spl 32 x)).2 = 0 then prsL r (acc ++ [(evS (spl 32 x)).1]) else ([], (acc.length : Int) + 1, (evS (spl 32 x)).2) := rfl
theorem cut10 {s : T} (h : s.length ≤ 90000000) : strings_Cut.f (mk s) (⟨#[10]⟩ : ByteArray) = some (mk (Lib.cut s [10]).1, mk (Lib.cut s [10]).2.1, (Lib.cut s [10]).2.2) := by
 unfold strings_Cut.f
 rw [mk_size, if_pos (by omega), mk_data]
 rfl
theorem parse_l0 (n : Nat) : ∀ (s : T) (k : Nat) (acc : List Ev), s.length ≤ n → s.length ≤ 90000000 → (∀ p ∈ spl 10 s, p.length ≤ 20000) → n + 100020 < k → acc.length ≤ 2000 →
 script_Parse.l0 k (mk s) acc = some (prsL (spl 10 s) acc) := by
 induction n with
 | zero =>
  intro s k acc hn hs hp hk ha
  obtain ⟨k, rfl⟩ := succ_of hk
  have e : s = [] := List.length_eq_zero_iff.1 (by omega)
  subst e
  simp only [script_Parse.l0]
  rw [mk_toList, if_pos rfl]
  rfl
 | succ n ih =>
  intro s k acc hn hs hp hk ha
  obtain ⟨k, rfl⟩ := succ_of hk
  simp only [script_Parse.l0]
  rw [mk_toList]
  have ew : wrap64 ((acc.length : Int) + 1) = (acc.length : Int) + 1 := by rw [w64 (by omega) (by omega)]
  rw [ew]
  by_cases h0 : s = []
  ·
   rw [if_pos h0, h0]
   rfl
  ·
   rw [if_neg h0, cut10 hs]
   simp only [Option.bind_some]
   rcases first_at 10 s with h | ⟨a, v, e, h⟩
   ·
    have e0 : ¬ (([] : List T) = [] ∧ s = []) := fun h => h0 h.2
    rw [spl_no 10 s h, cut_no h, prsL_cons]
    by_cases h1 : acc.length + 1 > 2000
    ·
     rw [if_pos (by omega), if_neg e0, if_pos h1]
    ·
     rw [if_neg (by omega), if_neg e0, if_neg h1]
     rfl
   ·
    have hsp : spl 10 s = a :: spl 10 v := by rw [e, spl_app 10 a v h]
    have hne : spl 10 v ≠ [] := spl_ne 10 v
    have hla : a.length ≤ 20000 := hp a (by rw [hsp]; exact List.mem_cons_self)
    have hlv : s.length = a.length + 1 + v.length := by rw [e, List.length_append, List.length_cons]; omega
    have e0 : ¬ (spl 10 v = [] ∧ a = []) := fun h => hne h.1
    rw [hsp, prsL_cons, e, cut_at h]
    by_cases h1 : acc.length + 1 > 2000
    ·
     rw [if_pos (by omega), if_neg e0, if_pos h1]
    ·
     rw [if_neg (by omega), if_neg e0, if_neg h1, if_neg hne]
     simp only [if_true]
     have hsplit := split_eq 32 hla k (by omega)
     rw [show ((32 : UInt8).toNat : Int) = 32 from rfl] at hsplit
     rw [hsplit]
     simp only [Option.bind_some]
     rw [event_eq (spl_ne 32 a) (fun p hp2 => by have := spl_short 32 a p hp2; omega) (by omega)]
     simp only [Option.bind_some]
     by_cases h2 : (evS (spl 32 a)).2 = 0
     ·
      rw [if_pos h2, if_pos h2, if_pos (by omega)]
      exact ih v k (acc ++ [(evS (spl 32 a)).1]) (by omega) (by omega) (fun p hp2 => hp p (by rw [hsp]; exact List.mem_cons_of_mem _ hp2)) (by omega) (by rw [List.length_append, List.length_singleton]; omega)
     ·
      rw [if_neg h2, if_neg h2]
theorem parse_eq {s : T} (hs : s.length ≤ 90000000) (hp : ∀ p ∈ spl 10 s, p.length ≤ 20000) {k : Nat} (hk : s.length + 100020 < k) : script_Parse.f k (mk s) = some (prsL (spl 10 s) []) :=
 parse_l0 s.length s k [] (Nat.le_refl _) hs hp hk (Nat.zero_le _)
end Go.Proofs.YtkplklfmhieoaaaDoor.Pure
end
section
namespace Go.Proofs.YtkplklfmhieoaaaDoor.Pure
open Go.RowKit Go.Proofs.YtkplklfmhieoaaaDoor.X Go.Proofs.YtkplklfmhieoaaaDoorW.PrintWords Go.Proofs.YtkplklfmhieoaaaDoorW.PrintLast Go.Proofs.YtkplklfmhieoaaaDoorW.PrintMore Go.Proofs.YtkplklfmhieoaaaDoor.Aid Go.Proofs.YtkplklfmhieoaaaDoor.Bytes Go.Proofs.YtkplklfmhieoaaaDoor.Decs
set_option linter.unusedVariables false
theorem mem_join {c : UInt8} {s : T} : ∀ {L : List T}, c ∈ Lib.join L s → (∃ x ∈ L, c ∈ x) ∨ c ∈ s
 | [], h => by simp [Lib.join] at h
 | x :: L, h => by
  rw [Lib.join_cons, List.mem_append] at h
  rcases h with h | h
  ·
   exact .inl ⟨x, List.mem_cons_self, h⟩
  ·
   unfold Lib.joinTail at h
   rw [List.mem_flatten] at h
   obtain ⟨y, hy, hc⟩ := h
   obtain ⟨z, hz, rfl⟩ := List.mem_map.1 hy
   rcases List.mem_append.1 hc with hc | hc
   ·
    exact .inr hc
   ·
    exact .inl ⟨z, List.mem_cons_of_mem _ hz, hc⟩
theorem itoa_chars {n : Int} : ∀ c ∈ Lib.itoa n, Dig c ∨ c = 45 := by
 intro c hc
 rw [itoa_sgn, List.mem_append] at hc
 rcases hc with hc | hc
 ·
  unfold sgn at hc
  split at hc
  ·
   exact .inr (List.mem_singleton.1 hc)
  ·
   cases hc
 ·
  exact .inl (dec_dig _ c hc)
theorem kword_no (a : Int) : (32 : UInt8) ∉ kword a ∧ (10 : UInt8) ∉ kword a := by
 unfold kword
 split
 ·
  decide
 ·
  split <;> decide
theorem itoa_no2 (n : Int) : (32 : UInt8) ∉ Lib.itoa n ∧ (10 : UInt8) ∉ Lib.itoa n := by
 refine ⟨fun h => ?_, fun h => ?_⟩
 ·
  rcases itoa_chars _ h with h | h
  ·
   exact absurd h (by decide)
  ·
   exact absurd h (by decide)
 ·
  rcases itoa_chars _ h with h | h
  ·
   exact absurd h (by decide)
  ·
   exact absurd h (by decide)
theorem hx_no {l : List Int} (hb : Byt l) : (32 : UInt8) ∉ hx l ∧ (10 : UInt8) ∉ hx l := by
 unfold hx
 split
 ·
  decide
 ·
  refine ⟨fun h => ?_, fun h => ?_⟩
  ·
   exact absurd ((hexL_all hb).1 _ h) (by decide)
  ·
   exact absurd ((hexL_all hb).1 _ h) (by decide)
theorem words_no {e : Ev} (h : GE e) : ∀ w ∈ wordsE e, (32 : UInt8) ∉ w ∧ (10 : UInt8) ∉ w := by
 intro w hw
 unfold wordsE at hw
 split at hw
 ·
  rcases List.mem_cons.1 hw with rfl | hw
  ·
   exact kword_no _
  ·
   rcases List.mem_cons.1 hw with rfl | hw
   ·
    exact itoa_no2 _
   ·
    rw [List.mem_singleton.1 hw]
    exact hx_no h.2.1
 ·
  rcases List.mem_cons.1 hw with rfl | hw
  ·
   exact kword_no _
  ·
   rw [List.mem_singleton.1 hw]
   exact itoa_no2 _
theorem words_ne (e : Ev) : wordsE e ≠ [] := by
 unfold wordsE
 split <;> simp
theorem spl_line {e : Ev} (h : GE e) : spl 32 (lineT e) = wordsE e := spl_join 32 (wordsE e) (words_ne e) (fun w hw => (words_no h w hw).1)
theorem line_no {e : Ev} (h : GE e) : (10 : UInt8) ∉ lineT e := by
 intro hc
 rcases mem_join hc with ⟨x, hx, h1⟩ | h1
 ·
  exact (words_no h x hx).2 h1
 ·
  exact absurd h1 (by decide)
theorem spl_text : ∀ {l : List Ev}, (∀ e ∈ l, GE e) → spl 10 (textT l) = l.map lineT ++ [[]]
 | [], _ => rfl
 | e :: l, h => by
  have ih := spl_text (l := l) (fun x hx => h x (List.mem_cons_of_mem _ hx))
  rw [textT_cons, List.append_assoc, List.singleton_append, spl_app 10 _ _ (line_no (h e List.mem_cons_self)), ih]
  rfl
theorem ev_words {e : Ev} (h : GE e) (hm : mayE e = true) : evS (wordsE e) = (e, 0) := by
 obtain ⟨h1, h2, h3, h4⟩ := (may_iff e).1 hm
 have hk := kd_word h1
 have hr := read_itoa h.1
 obtain ⟨a, n, d⟩ := e
 dsimp only at h1 h2 h3 h4 hk hr
 unfold evS wordsE
 by_cases c : a = 1
 ·
  have e1 : ([kword a, Lib.itoa n, hx d] : List T).getD 0 [] = kword a := rfl
  have e2 : ([kword a, Lib.itoa n, hx d] : List T).getD 1 [] = Lib.itoa n := rfl
  have e3 : ([kword a, Lib.itoa n, hx d] : List T).getD 2 [] = hx d := rfl
  have hb : badN a ([kword a, Lib.itoa n, hx d] : List T).length = false := by
   unfold badN
   rw [if_pos c]
   rfl
  dsimp only
  rw [if_pos c, e1, e2, e3, hk, if_neg (by omega), hb, if_neg (by simp), hr]
  dsimp only
  rw [if_pos rfl, if_neg (by omega), if_neg (by omega), if_pos c, data_hx h.2.1, c]
 ·
  have e1 : ([kword a, Lib.itoa n] : List T).getD 0 [] = kword a := rfl
  have e2 : ([kword a, Lib.itoa n] : List T).getD 1 [] = Lib.itoa n := rfl
  have hb : badN a ([kword a, Lib.itoa n] : List T).length = false := by
   unfold badN
   rw [if_neg c]
   rfl
  have hd : d = [] := h4.resolve_left c
  dsimp only
  rw [if_neg c, e1, e2, hk, if_neg (by omega), hb, if_neg (by simp), hr]
  dsimp only
  rw [if_pos rfl, if_neg (by omega), if_neg (by omega), if_neg c, hd]
theorem ev_back {x : T} (hx : x.length ≤ 20000) (h : (evS (spl 32 x)).2 = 0) : lineT (evS (spl 32 x)).1 = x ∧ GE (evS (spl 32 x)).1 ∧ mayE (evS (spl 32 x)).1 = true := by
 have hj := join_spl 32 x
 have hs := spl_short 32 x
 generalize spl 32 x = L at h hj hs ⊢
 unfold evS at h ⊢
 by_cases h0 : kd (L.getD 0 []) = 0
 ·
  rw [if_pos h0] at h
  cases h
 ·
  rw [if_neg h0] at h ⊢
  have hk := kd_back h0
  by_cases hb : badN (kd (L.getD 0 [])) L.length = true
  ·
   rw [if_pos hb] at h
   cases h
  ·
   rw [if_neg hb] at h ⊢
   by_cases h1 : (readS (L.getD 1 [])).2 = 0
   ·
    rw [if_pos h1] at h ⊢
    have hr := read_back h1
    by_cases h2 : (readS (L.getD 1 [])).1 < 0
    ·
     rw [if_pos h2] at h
     cases h
    ·
     rw [if_neg h2] at h ⊢
     by_cases h3 : (readS (L.getD 1 [])).1 > kmost (kd (L.getD 0 []))
     ·
      rw [if_pos h3] at h
      cases h
     ·
      rw [if_neg h3] at h ⊢
      unfold badN at hb
      by_cases h4 : kd (L.getD 0 []) = 1
      ·
       rw [if_pos h4] at h hb ⊢
       have hl : L.length = 3 := by
        rw [decide_eq_true_eq] at hb
        omega
       match L, hl with
       | [a, b, c], _ =>
        have g0 : ([a, b, c] : List T).getD 0 [] = a := rfl
        have g1 : ([a, b, c] : List T).getD 1 [] = b := rfl
        have g2 : ([a, b, c] : List T).getD 2 [] = c := rfl
        rw [g0] at h4 hk h3
        rw [g1] at h1 hr h2 h h3 ⊢
        rw [g2] at h ⊢
        cases hd : dataS c with
        | none =>
         rw [hd] at h
         cases h
        | some d =>
         have hdb := data_back hd
         rw [h4] at hk h3
         dsimp only
         refine ⟨?_, ⟨hr.1, hdb.2.1, ?_⟩, (may_iff _).2 ⟨⟨by show (1 : Int) ≤ 1; omega, by show (1 : Int) ≤ 3; omega⟩, by show 0 ≤ (readS b).1; omega, by show (readS b).1 ≤ kmost 1; omega, .inl rfl⟩⟩
         ·
          rw [← hj]
          unfold lineT wordsE
          dsimp only
          rw [if_pos rfl, hk.1, hr.2, hdb.1]
         ·
          have := hs c (by simp)
          show d.length ≤ 20000
          omega
      ·
       rw [if_neg h4] at h hb ⊢
       have hl : L.length = 2 := by
        rw [decide_eq_true_eq] at hb
        omega
       match L, hl with
       | [a, b], _ =>
        have g0 : ([a, b] : List T).getD 0 [] = a := rfl
        have g1 : ([a, b] : List T).getD 1 [] = b := rfl
        rw [g0] at h4 hk h3 ⊢
        rw [g1] at h1 hr h2 h3 ⊢
        dsimp only
        refine ⟨?_, ⟨hr.1, (fun c hc => by cases hc), Nat.zero_le _⟩, (may_iff _).2 ⟨hk.2, by show 0 ≤ (readS b).1; omega, by show (readS b).1 ≤ kmost (kd a); omega, .inr rfl⟩⟩
        rw [← hj]
        unfold lineT wordsE
        dsimp only
        rw [if_neg h4, hk.1, hr.2]
   ·
    rw [if_neg h1] at h
    exact absurd h h1
theorem prs_back : ∀ {L : List T} {acc : List Ev}, L ≠ [] → (∀ p ∈ L, p.length ≤ 20000) → (prsL L acc).2.2 = 0 →
 ∃ m, prsL L acc = (acc ++ m, 0, 0) ∧ L = m.map lineT ++ [[]] ∧ (∀ e ∈ m, GE e ∧ mayE e = true) ∧ (m ≠ [] → acc.length + m.length ≤ 2000)
 | x :: r, acc, _, hp, h => by
  rw [prsL_cons] at h ⊢
  by_cases h0 : r = [] ∧ x = []
  ·
   rw [if_pos h0]
   refine ⟨[], by rw [List.append_nil], by rw [h0.1, h0.2]; rfl, (fun e he => by cases he), fun h => absurd rfl h⟩
  ·
   rw [if_neg h0] at h ⊢
   by_cases h1 : acc.length + 1 > 2000
   ·
    rw [if_pos h1] at h
    cases h
   ·
    rw [if_neg h1] at h ⊢
    by_cases h2 : r = []
    ·
     rw [if_pos h2] at h
     cases h
    ·
     rw [if_neg h2] at h ⊢
     by_cases h3 : (evS (spl 32 x)).2 = 0
     ·
      rw [if_pos h3] at h ⊢
      have hb := ev_back (hp x List.mem_cons_self) h3
      obtain ⟨m, e1, e2, e3, e4⟩ := prs_back (L := r) (acc := acc ++ [(evS (spl 32 x)).1]) h2 (fun p hp2 => hp p (List.mem_cons_of_mem _ hp2)) h
      refine ⟨(evS (spl 32 x)).1 :: m, ?_, ?_, ?_, ?_⟩
      ·
       rw [e1, List.append_assoc, List.singleton_append]
      ·
       rw [e2, List.map_cons, hb.1]
       rfl
      ·
       intro e he
       rcases List.mem_cons.1 he with rfl | he
       ·
        exact hb.2
       ·
        exact e3 e he
      ·
       intro _
       rw [List.length_cons]
       by_cases hm : m = []
       ·
        rw [hm]
        simp only [List.length_nil]
        omega
       ·
        have := e4 hm
        rw [List.length_append, List.length_singleton] at this
        omega
     ·
      rw [if_neg h3] at h
      exact absurd h h3
theorem prs_err : ∀ {L : List T} {acc : List Ev}, (prsL L acc).2.2 ≠ 0 → (prsL L acc).1 = [] ∧ (prsL L acc).2.1 ≥ 1
 | [], acc, h => absurd rfl h
 | x :: r, acc, h => by
  rw [prsL_cons] at h ⊢
  by_cases h0 : r = [] ∧ x = []
  ·
   rw [if_pos h0] at h
   exact absurd rfl h
  ·
   rw [if_neg h0] at h ⊢
   by_cases h1 : acc.length + 1 > 2000
   ·
    rw [if_pos h1]
    exact ⟨rfl, by show (acc.length : Int) + 1 ≥ 1; omega⟩
   ·
    rw [if_neg h1] at h ⊢
    by_cases h2 : r = []
    ·
     rw [if_pos h2]
     exact ⟨rfl, by show (acc.length : Int) + 1 ≥ 1; omega⟩
    ·
     rw [if_neg h2] at h ⊢
     by_cases h3 : (evS (spl 32 x)).2 = 0
     ·
      rw [if_pos h3] at h ⊢
      exact prs_err h
     ·
      rw [if_neg h3]
      exact ⟨rfl, by show (acc.length : Int) + 1 ≥ 1; omega⟩
theorem text_back {s : T} (hp : ∀ p ∈ spl 10 s, p.length ≤ 20000) (h : (prsL (spl 10 s) []).2.2 = 0) :
 ∃ m, prsL (spl 10 s) [] = (m, 0, 0) ∧ textT m = s ∧ (∀ e ∈ m, GE e ∧ mayE e = true) ∧ m.length ≤ 2000 := by
 obtain ⟨m, e1, e2, e3, e4⟩ := prs_back (spl_ne 10 s) hp h
 refine ⟨m, e1, ?_, e3, ?_⟩
 ·
  rw [← join_spl 10 s, e2, ← spl_text (fun e he => (e3 e he).1), join_spl]
 ·
  by_cases hm : m = []
  ·
   rw [hm]
   exact Nat.zero_le _
  ·
   have := e4 hm
   simpa using this
end Go.Proofs.YtkplklfmhieoaaaDoor.Pure
end
section
namespace Go.Proofs.YtkplklfmhieoaaaDoor.Pure
open Go.RowKit Go.Proofs.YtkplklfmhieoaaaDoor.X Go.Proofs.YtkplklfmhieoaaaDoorW.PrintWords Go.Proofs.YtkplklfmhieoaaaDoorW.PrintLast Go.Proofs.YtkplklfmhieoaaaDoorW.PrintMore Go.Proofs.YtkplklfmhieoaaaDoor.Aid Go.Proofs.YtkplklfmhieoaaaDoor.Bytes
set_option linter.unusedVariables false
theorem rself_l0 {l : List Ev} (hn : l.length ≤ 100000) (d : Nat) : ∀ (i k : Nat), i + d = l.length → d < k → r26_Same.l0 k l l (i : Int) = some true := by
 induction d with
 | zero =>
  intro i k hi hk
  obtain ⟨k, rfl⟩ := succ_of hk
  simp only [r26_Same.l0]
  rw [if_neg (by omega)]
 | succ d ih =>
  intro i k hi hk
  obtain ⟨k, rfl⟩ := succ_of hk
  simp only [r26_Same.l0]
  rw [if_pos (by omega), if_pos (by omega), if_pos (by omega), if_pos trivial, if_pos trivial, if_pos trivial, w64s (by omega)]
  exact ih (i + 1) k (by omega) (by omega)
theorem rself_eq {l : List Ev} (hn : l.length ≤ 100000) {k : Nat} (hk : 100000 < k) : r26_Same.f k l l = some true := by
 unfold r26_Same.f
 rw [if_pos rfl]
 exact rself_l0 hn l.length 0 k (by omega) (by omega)
end Go.Proofs.YtkplklfmhieoaaaDoor.Pure
end
section
namespace Go.Proofs.YtkplklfmhieoaaaDoor.Pure
open Go.RowKit Go.Proofs.YtkplklfmhieoaaaDoor.X Go.Proofs.YtkplklfmhieoaaaDoorW.PrintWords Go.Proofs.YtkplklfmhieoaaaDoorW.PrintLast Go.Proofs.YtkplklfmhieoaaaDoorW.PrintMore Go.Proofs.YtkplklfmhieoaaaDoor.Aid Go.Proofs.YtkplklfmhieoaaaDoor.Bytes
set_option linter.unusedVariables false
theorem alive_eq (k : Nat) (hk : 60 ≤ k) : w26_alive.f k = some true :=
 at_rounds (g := fun k => w26_alive.f k) w26_alive.mono hk (by decide +kernel)
theorem j0_true (a b : ByteArray) {k : Nat} (hk : 0 < k) : w26_ScriptLines.j0 k a b true = some true := by
 obtain ⟨k, rfl⟩ := succ_of hk
 simp only [w26_ScriptLines.j0]
 rfl
theorem j1_true (a b : ByteArray) (l m : List Ev) (n f : Int) {k : Nat} (hk : 0 < k) : w26_ScriptLines.j1 k a b l m n f true = some true := by
 obtain ⟨k, rfl⟩ := succ_of hk
 simp only [w26_ScriptLines.j1]
 rfl
def cost : List T → Nat
 | [] => 0
 | x :: r => x.length + 1 + cost r
theorem cost_cons (x : T) (r : List T) : cost (x :: r) = x.length + 1 + cost r := rfl
theorem cost_spl (n : Nat) : ∀ s : T, s.length ≤ n → cost (spl 10 s) = s.length + 1 := by
 induction n with
 | zero =>
  intro s h
  rw [List.length_eq_zero_iff.1 (by omega : s.length = 0)]
  rfl
 | succ n ih =>
  intro s h
  rcases first_at 10 s with h1 | ⟨a, v, e, h1⟩
  ·
   rw [spl_no 10 s h1, cost_cons]
   rfl
  ·
   have hl : s.length = a.length + 1 + v.length := by rw [e, List.length_append, List.length_cons]; omega
   rw [hl, e, spl_app 10 a v h1, cost_cons, ih v (by omega)]
   omega
theorem line_four (e : Ev) : 4 ≤ (lineT e).length := by
 have h : 4 ≤ (kword e.f0).length := by
  unfold kword
  split
  ·
   decide
  ·
   split <;> decide
 unfold lineT wordsE
 split
 ·
  rw [Lib.join_cons, List.length_append]
  omega
 ·
  rw [Lib.join_cons, List.length_append]
  omega
theorem prs_shift (l : List Ev) : ∀ {L : List T} {acc : List Ev}, L ≠ [] → (∀ p ∈ L, p.length ≤ 20000) → l.length + acc.length + cost L / 5 + 1 ≤ 2000 →
 prsL L (l ++ acc) = if (prsL L acc).2.2 = 0 then (l ++ (prsL L acc).1, 0, 0) else ([], (prsL L acc).2.1 + (l.length : Int), (prsL L acc).2.2)
 | x :: r, acc, _, hp, hn => by
  rw [cost_cons] at hn
  have hla : (l ++ acc).length = l.length + acc.length := List.length_append
  rw [prsL_cons, prsL_cons x r acc]
  by_cases h0 : r = [] ∧ x = []
  ·
   rw [if_pos h0, if_pos h0]
   rfl
  ·
   have n1 : ¬ (l ++ acc).length + 1 > 2000 := by rw [hla]; omega
   have n2 : ¬ acc.length + 1 > 2000 := by omega
   rw [if_neg h0, if_neg h0, if_neg n1, if_neg n2]
   by_cases h2 : r = []
   ·
    rw [if_pos h2, if_pos h2]
    show _ = (([] : List Ev), (acc.length : Int) + 1 + (l.length : Int), (2 : Int))
    rw [hla]
    refine Prod.ext rfl (Prod.ext ?_ rfl)
    show (((l.length + acc.length : Nat) : Int)) + 1 = (acc.length : Int) + 1 + (l.length : Int)
    omega
   ·
    rw [if_neg h2, if_neg h2]
    by_cases h3 : (evS (spl 32 x)).2 = 0
    ·
     rw [if_pos h3, if_pos h3, List.append_assoc]
     have hb := (ev_back (hp x List.mem_cons_self) h3).1
     have h4 := line_four (evS (spl 32 x)).1
     rw [hb] at h4
     exact prs_shift l (L := r) (acc := acc ++ [(evS (spl 32 x)).1]) h2 (fun p hp2 => hp p (List.mem_cons_of_mem _ hp2)) (by rw [List.length_append, List.length_singleton]; omega)
    ·
     rw [if_neg h3, if_neg h3]
     show _ = if (evS (spl 32 x)).2 = 0 then _ else _
     rw [if_neg h3, hla]
     refine Prod.ext rfl (Prod.ext ?_ rfl)
     show (((l.length + acc.length : Nat) : Int)) + 1 = (acc.length : Int) + 1 + (l.length : Int)
     omega
theorem prs_app : ∀ {l : List Ev} {acc : List Ev} {R : List T}, R ≠ [] → (∀ e ∈ l, GE e ∧ mayE e = true) → acc.length + l.length ≤ 2000 → prsL (l.map lineT ++ R) acc = prsL R (acc ++ l)
 | [], acc, R, _, _, _ => by
  rw [List.append_nil]
  rfl
 | e :: l, acc, R, hR, h, hn => by
  have he := h e List.mem_cons_self
  rw [List.length_cons] at hn
  have ih := prs_app (l := l) (acc := acc ++ [e]) hR (fun x hx => h x (List.mem_cons_of_mem _ hx)) (by rw [List.length_append, List.length_singleton]; omega)
  have hne : l.map lineT ++ R ≠ [] := fun e => hR (List.append_eq_nil_iff.1 e).2
  have hev := ev_words he.1 he.2
  rw [List.map_cons, List.cons_append, prsL_cons, if_neg (fun h => hne h.1), if_neg (by omega), if_neg hne, spl_line he.1, hev, if_pos rfl, ih, List.append_assoc, List.singleton_append]
theorem spl_two : ∀ {l : List Ev} (b : T), (∀ e ∈ l, GE e) → spl 10 (textT l ++ b) = l.map lineT ++ spl 10 b
 | [], b, _ => rfl
 | e :: l, b, h => by
  have ih := spl_two (l := l) b (fun x hx => h x (List.mem_cons_of_mem _ hx))
  rw [textT_cons, List.append_assoc, List.append_assoc, List.singleton_append, spl_app 10 _ _ (line_no (h e List.mem_cons_self)), ih]
  rfl
theorem pieces {s : T} {n : Nat} (h : s.length ≤ n) : ∀ p ∈ spl 10 s, p.length ≤ n := fun p hp => Nat.le_trans (spl_short 10 s p hp) h
theorem prs_err2 : ∀ {L : List T} {acc : List Ev}, (prsL L acc).2.2 ≠ 0 → (prsL L acc).2.1 ≤ (acc.length : Int) + (L.length : Int)
 | [], acc, h => absurd rfl h
 | x :: r, acc, h => by
  rw [prsL_cons] at h ⊢
  rw [List.length_cons]
  by_cases h0 : r = [] ∧ x = []
  ·
   rw [if_pos h0] at h
   exact absurd rfl h
  ·
   rw [if_neg h0] at h ⊢
   by_cases h1 : acc.length + 1 > 2000
   ·
    rw [if_pos h1]
    show (acc.length : Int) + 1 ≤ _
    omega
   ·
    rw [if_neg h1] at h ⊢
    by_cases h2 : r = []
    ·
     rw [if_pos h2]
     show (acc.length : Int) + 1 ≤ _
     omega
    ·
     rw [if_neg h2] at h ⊢
     by_cases h3 : (evS (spl 32 x)).2 = 0
     ·
      rw [if_pos h3] at h ⊢
      have := prs_err2 h
      rw [List.length_append, List.length_singleton] at this
      omega
     ·
      rw [if_neg h3]
      show (acc.length : Int) + 1 ≤ _
      omega
theorem j0_false {a b : T} (ha : a.length ≤ 3000) (hb : b.length ≤ 3000) {k : Nat} (hk : 200000 < k) : w26_ScriptLines.j0 k (mk a) (mk b) false = some true := by
 obtain ⟨k, rfl⟩ := succ_of hk
 simp only [w26_ScriptLines.j0]
 rw [if_neg (by simp), parse_eq (by omega) (pieces (by omega)) (by omega), parse_eq (by omega) (pieces (by omega)) (by omega)]
 simp only [Option.bind_some]
 by_cases h : (prsL (spl 10 a) []).2.2 = 0
 ·
  rw [if_pos h]
  obtain ⟨l, e1, e2, e3, e4⟩ := text_back (pieces (by omega)) h
  rw [e1]
  dsimp only
  by_cases h9 : (l.length : Int) > 900
  ·
   rw [if_pos h9, j1_true _ _ _ _ _ _ (by omega)]
  ·
   rw [if_neg h9]
   by_cases h9b : ((prsL (spl 10 b) []).1.length : Int) > 900
   ·
    rw [decide_eq_true h9b, j1_true _ _ _ _ _ _ (by omega)]
   ·
    rw [decide_eq_false h9b]
    obtain ⟨k, rfl⟩ := succ_of (show 0 < k by omega)
    have hcat : (a ++ b).length = a.length + b.length := List.length_append
    have hsp : spl 10 (a ++ b) = l.map lineT ++ spl 10 b := by rw [← e2, spl_two b (fun e he => (e3 e he).1)]
    have hpr : prsL (spl 10 (a ++ b)) [] = if (prsL (spl 10 b) []).2.2 = 0 then (l ++ (prsL (spl 10 b) []).1, 0, 0) else ([], (prsL (spl 10 b) []).2.1 + (l.length : Int), (prsL (spl 10 b) []).2.2) := by
     rw [hsp, prs_app (spl_ne 10 b) e3 (by simpa using e4), List.nil_append]
     have := prs_shift l (L := spl 10 b) (acc := []) (spl_ne 10 b) (pieces (by omega)) (by rw [cost_spl b.length b (Nat.le_refl _)]; simp only [List.length_nil]; omega)
     rw [List.append_nil] at this
     exact this
    simp only [w26_ScriptLines.j1]
    rw [if_neg (by simp), mk_size, mk_size, if_pos (by omega), mk_append, parse_eq (by omega) (pieces (by omega)) (by omega), hpr]
    simp only [Option.bind_some]
    by_cases hf : (prsL (spl 10 b) []).2.2 = 0
    ·
     rw [if_pos hf, if_pos hf]
     dsimp only
     have hl2 : (l ++ (prsL (spl 10 b) []).1).length = l.length + (prsL (spl 10 b) []).1.length := List.length_append
     rw [if_pos rfl, if_pos (by rw [hl2, w64 (by omega) (by omega)]; omega), if_pos (by omega), if_pos (by rw [hl2]; omega), Int.toNat_natCast, List.take_left, List.drop_left, rself_eq (by omega) (by omega)]
     simp only [Option.bind_some, if_true]
     rw [rself_eq (by omega) (by omega)]
     rfl
    ·
     have hn := prs_err hf
     have hlo := prs_err2 hf
     have hsl := spl_len 10 b
     simp only [List.length_nil] at hlo
     rw [if_neg hf, if_neg hf]
     dsimp only
     rw [if_pos rfl, if_pos (by rw [w64 (by omega) (by omega)])]
     rfl
 ·
  rw [if_neg h, j1_true _ _ _ _ _ _ (by omega)]
theorem ScriptLines : w26_ScriptLines.Pure := by
 intro a b _ _
 obtain ⟨K, hK⟩ : ∃ K : Nat, K = 300000 := ⟨_, rfl⟩
 refine ⟨K, ?_⟩
 unfold w26_ScriptLines.f
 rw [alive_eq K (by omega)]
 simp only [Option.bind_some, if_true]
 obtain ⟨s, rfl⟩ := str_mk a
 obtain ⟨t, rfl⟩ := str_mk b
 rw [mk_size, mk_size]
 by_cases h : (s.length : Int) > 3000
 ·
  rw [if_pos h]
  exact j0_true _ _ (by omega)
 ·
  rw [if_neg h]
  by_cases h2 : (t.length : Int) > 3000
  ·
   rw [decide_eq_true h2]
   exact j0_true _ _ (by omega)
  ·
   rw [decide_eq_false h2]
   exact j0_false (by omega) (by omega) (by omega)
end Go.Proofs.YtkplklfmhieoaaaDoor.Pure
end
