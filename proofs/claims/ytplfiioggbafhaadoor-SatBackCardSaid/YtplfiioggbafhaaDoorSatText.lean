/- What a sum's text is read as, in plain Lean; and that the program's functions and the references' compute just that. Conditions: the texts are short. -/
import Derived.Test.YtplfiioggbafhaaDoorSatPlain
namespace Go.Proofs.YtplfiioggbafhaaDoor.Pure
open Go.RowKit Go.Proofs.YtplfiioggbafhaaDoor.X Go.Proofs.YtplfiioggbafhaaDoorW.PrintWords Go.Proofs.YtplfiioggbafhaaDoorW.PrintLast Go.Proofs.YtplfiioggbafhaaDoorW.PrintMore Go.Proofs.YtplfiioggbafhaaDoor.Aid Go.Proofs.YtplfiioggbafhaaDoor.Bytes Go.Proofs.YtplfiioggbafhaaDoor.Decs

theorem byte_all {p : UInt8 → Prop} (h : ∀ n, n < 256 → p (UInt8.ofNat n)) (b : UInt8) : p b := by
  have := h b.toNat b.toNat_lt
  rwa [UInt8.ofNat_toNat] at this
theorem dropW_nil (p : UInt8 → Bool) (l : T) : l.dropWhile p = [] ↔ l.all p = true := by
  induction l with
  | nil => simp
  | cons x l ih =>
    rw [List.dropWhile_cons, List.all_cons]
    by_cases h : p x = true
    · rw [if_pos h, h, Bool.true_and]
      exact ih
    · rw [if_neg h, Bool.eq_false_iff.mpr h, Bool.false_and]
      simp
theorem trim_nil (l cs : T) : Lib.trimS l cs = [] ↔ l.all (fun b => cs.contains b) = true := by
  unfold Lib.trimS Lib.trimLeftS Lib.trimRightS
  rw [dropW_nil]
  by_cases h : (l.reverse.dropWhile fun b => cs.contains b) = []
  · have h2 := (dropW_nil _ _).mp h
    rw [List.all_reverse] at h2
    rw [h, h2]
    simp
  · have h2 : ¬ l.all (fun b => cs.contains b) = true := fun e => h ((dropW_nil _ _).mpr (by rw [List.all_reverse]; exact e))
    rw [List.all_reverse]
    constructor
    · intro e
      exfalso
      obtain ⟨x, r, hr⟩ := List.exists_cons_of_ne_nil h
      have hx : ¬ cs.contains x = true := by
        have := List.head_dropWhile_not (fun b => cs.contains b) h
        simp only [hr, List.head_cons] at this
        simpa using this
      rw [hr, List.all_cons] at e
      exact hx (by simpa using (Bool.and_eq_true_iff.mp e).1)
    · intro e
      exact absurd e h2
instance (l : T) : Decidable (Num l) := inferInstanceAs (Decidable (_ ∧ _ ∧ _))
def digL : T := [48, 49, 50, 51, 52, 53, 54, 55, 56, 57]
theorem dig_ok (b : UInt8) : digL.contains b = decide (Dig b) := byte_all (p := fun b => digL.contains b = decide (Dig b)) (by decide +kernel) b
/-- A text behind its sign. -/
def strip (l : T) : T := if l.head? = some 45 then l.drop 1 else l
theorem prefix_eq (l : T) : strings_TrimPrefix.f (mk l) (⟨#[45]⟩ : ByteArray) = some (mk (strip l)) := by
  unfold strings_TrimPrefix.f stringslite_TrimPrefix.f stringslite_HasPrefix.f strip
  have e1 : ((⟨#[45]⟩ : ByteArray).size : Int) = 1 := rfl
  rw [e1]
  cases l with
  | nil => rfl
  | cons c r =>
    have es : ((mk (c :: r)).size : Int) = (r.length : Int) + 1 := by rw [mk_size, List.length_cons]; omega
    have ei : ((1 : Int)).toNat = 1 := rfl
    have et : (⟨#[45]⟩ : ByteArray).toList = [45] := mk_toList [45]
    rw [es, if_pos (by omega), if_pos (by omega), if_pos (by omega), ei, mk_upto, mk_toList, et, Option.bind_some]
    by_cases h : c = 45
    · subst h
      rw [if_pos (by rfl), if_pos (by omega), if_pos (by omega), mk_from]
      rfl
    · rw [if_neg (by simpa using h)]
      simp [h]
theorem trim_eq {l : T} (hl : l.length ≤ 100000) : strings_Trim.f (mk l) (⟨#[48, 49, 50, 51, 52, 53, 54, 55, 56, 57]⟩ : ByteArray) = some (mk (Lib.trimS l digL)) := by
  unfold strings_Trim.f
  rw [show (⟨#[48, 49, 50, 51, 52, 53, 54, 55, 56, 57]⟩ : ByteArray) = mk digL from rfl, mk_size, mk_size, mk_data, mk_data, if_pos ⟨by omega, by decide, by decide +kernel⟩]
  rfl
theorem trim_dig (l : T) : ((mk (Lib.trimS l digL)).toList == ([] : T)) = decide (∀ c ∈ l, Dig c) := by
  rw [mk_toList, Bool.eq_iff_iff, beq_iff_eq, trim_nil, decide_eq_true_iff, List.all_eq_true]
  constructor
  · intro h c hc
    have := h c hc
    rw [dig_ok] at this
    exact of_decide_eq_true this
  · intro h c hc
    rw [dig_ok]
    exact decide_eq_true (h c hc)
theorem digits_eq {l : T} (hl : l.length ≤ 100000) : sat_digits.f (mk l) = some (decide (Num l)) := by
  unfold sat_digits.f
  rw [trim_eq hl, Option.bind_some, trim_dig, mk_toList]
  cases l with
  | nil => rfl
  | cons c r =>
    have hb : bt (mk (c :: r)) 0 = (c.toNat : Int) := bt_mk (l := c :: r) (i := 0) (by simp)
    rw [if_neg (by simp), mk_size, if_pos (by rw [List.length_cons]; omega), hb]
    by_cases h : c = 48
    · subst h
      rw [if_pos (by rfl)]
      by_cases h2 : (48 :: r : T) = [48]
      · rw [if_pos h2, h2]
        rfl
      · rw [if_neg h2]
        congr 1
        symm
        exact decide_eq_false fun hn => h2 (hn.2.1 rfl)
    · have h' : ¬ (c.toNat : Int) = 48 := fun e => h (byte_eq.mp (show (c.toNat : Int) = ((48 : UInt8).toNat : Int) from e))
      rw [if_neg h']
      congr 1
      apply decide_eq_decide.mpr
      constructor
      · intro hd
        exact ⟨by simp, fun e => absurd (by simpa using e) h, hd⟩
      · intro hn
        exact hn.2.2
/-- What digits say, behind a sign or not. -/
def fin (neg : Bool) (u : Nat) : Int × Int :=
  if neg = true then (if u ≤ 9223372036854775808 then (-(u : Int), 0) else (0, 3)) else (if u < 9223372036854775808 then ((u : Int), 0) else (0, 3))
theorem fin_t (u : Nat) : fin true u = if u ≤ 9223372036854775808 then (-(u : Int), 0) else (0, 3) := rfl
theorem fin_f (u : Nat) : fin false u = if u < 9223372036854775808 then ((u : Int), 0) else (0, 3) := rfl
/-- What a text is read as. -/
def readS (l : T) : Int × Int :=
  if Num (strip l) ∧ l ≠ [45, 48] then fin (decide (l.head? = some 45)) (val (strip l)) else (0, 2)
theorem parse_dig {l : T} (h : Num l) : Lib.parseUintB 64 l = if val l ≤ 18446744073709551615 then .ok (val l) else .range := by
  unfold Lib.parseUintB
  rw [if_neg h.1, parseM (by decide) l 0 h.2.2 (by decide)]
  rfl
def endI : Lib.NumEnd Int → Int × Int
  | .ok v => (v, 0)
  | _ => (0, 3)
theorem pb_neg (r : T) : Lib.parseIntB 64 (45 :: r) = (match Lib.parseUintB 64 r with | .ok u => if 2 ^ 63 < u then Lib.NumEnd.range else .ok (-(u : Int)) | .range => .range | _ => Lib.NumEnd.syntax) := by
  unfold Lib.parseIntB
  have e45 : (45 : UInt8).toNat = 45 := rfl
  simp only [e45]
  rw [if_pos (.inr trivial)]
  cases Lib.parseUintB 64 r with
  | ok u =>
    simp only []
    rw [if_neg (fun h => h.1 trivial)]
    simp
  | range => rfl
  | _ => rfl
theorem pb_pos {c : UInt8} {r : T} (h1 : c.toNat ≠ 43) (h2 : c.toNat ≠ 45) : Lib.parseIntB 64 (c :: r) = (match Lib.parseUintB 64 (c :: r) with | .ok u => if 2 ^ 63 ≤ u then Lib.NumEnd.range else .ok (u : Int) | .range => .range | _ => Lib.NumEnd.syntax) := by
  unfold Lib.parseIntB
  simp only []
  rw [if_neg (fun h => h.elim h1 h2)]
  cases Lib.parseUintB 64 (c :: r) with
  | ok u => simp [h2]
  | range => rfl
  | _ => rfl
theorem parseI {l : T} (h : Num (strip l)) : endI (Lib.parseIntB 64 l) = fin (decide (l.head? = some 45)) (val (strip l)) := by
  cases l with
  | nil => exact absurd rfl h.1
  | cons c r =>
    by_cases hc : c = 45
    · subst hc
      have es : strip (45 :: r) = r := rfl
      rw [es] at h ⊢
      have ed : decide ((45 :: r : T).head? = some 45) = true := rfl
      rw [pb_neg, parse_dig h, ed, fin_t]
      by_cases h1 : val r ≤ 18446744073709551615
      · rw [if_pos h1]
        simp only []
        by_cases h2 : val r ≤ 9223372036854775808
        · rw [if_pos h2, if_neg (by omega)]
          rfl
        · rw [if_neg h2, if_pos (by omega)]
          rfl
      · rw [if_neg h1, if_neg (by omega)]
        rfl
    · have es : strip (c :: r) = c :: r := by unfold strip; rw [if_neg (by simpa using hc)]
      rw [es] at h ⊢
      have hd := h.2.2 c List.mem_cons_self
      unfold Dig at hd
      have ed : decide ((c :: r).head? = some 45) = false := decide_eq_false (by simpa using hc)
      rw [pb_pos (by omega) (by omega), parse_dig h, ed, fin_f]
      by_cases h1 : val (c :: r) ≤ 18446744073709551615
      · rw [if_pos h1]
        simp only []
        by_cases h2 : val (c :: r) < 9223372036854775808
        · rw [if_pos h2, if_neg (by omega)]
          rfl
        · rw [if_neg h2, if_pos (by omega)]
          rfl
      · rw [if_neg h1, if_neg (by omega)]
        rfl
theorem strip_len (l : T) : (strip l).length ≤ l.length := by
  unfold strip
  split
  · rw [List.length_drop]; omega
  · omega
theorem read_eq {l : T} (hl : l.length ≤ 100000) : sat_Read.f (mk l) = some (readS l) := by
  unfold sat_Read.f readS
  rw [prefix_eq, Option.bind_some, digits_eq (by have := strip_len l; omega), Option.bind_some, mk_toList, mk_size, mk_data]
  by_cases h : Num (strip l)
  · rw [if_pos (decide_eq_true h)]
    by_cases h2 : l = [45, 48]
    · rw [if_pos h2, if_neg (fun h => h.2 h2)]
    · rw [if_neg h2, if_pos (show l.length ≤ 140737488355328 by omega), if_pos ⟨h, h2⟩, ← parseI h]
      cases Lib.parseIntB 64 l with
      | ok v => rfl
      | _ => rfl
  · rw [if_neg (by simpa using h), if_neg (fun g => h g.1)]

theorem l1_eq {n : Nat} {t : T} (x0 : ByteArray) (hx : x0.size = n) (ht : t.length ≤ 100000) (d : Nat) : ∀ (i k v : Nat), i + d = t.length → d < k → v ≤ 9223372036854775808 → (∀ c ∈ t.drop i, Dig c) →
    ebbtideref01_Read.l1 k x0 (mk t) (-(v : Int)) (i : Int) = some (fin (decide (t.length < n)) (valF v (t.drop i))) := by
  induction d with
  | zero =>
    intro i k v hi hk hv hd
    obtain ⟨k, rfl⟩ := succ_of hk
    rw [ebbtideref01_Read.l1, mk_size, if_neg (by omega), List.drop_of_length_le (by omega), hx]
    have ev : valF v [] = v := rfl
    rw [ev]
    by_cases h : t.length < n
    · rw [if_pos (by omega), decide_eq_true h, fin_t, if_pos hv]
    · rw [if_neg (by omega), decide_eq_false h, fin_f]
      by_cases h2 : v < 9223372036854775808
      · rw [if_neg (by omega), if_pos h2, w64 (by omega) (by omega), Int.neg_neg]
      · rw [if_pos (by omega), if_neg h2]
  | succ d ih =>
    intro i k v hi hk hv hd
    obtain ⟨k, rfl⟩ := succ_of hk
    have hlt : i < t.length := by omega
    have hdi : Dig t[i] := hd _ (by rw [drop_at hlt]; exact List.mem_cons_self)
    have hdr : ∀ c ∈ t.drop (i + 1), Dig c := fun c hc => hd c (by rw [drop_at hlt]; exact List.mem_cons_of_mem _ hc)
    rw [ebbtideref01_Read.l1, mk_size, if_pos (by omega), if_pos (by omega), bt_mk hlt, drop_at hlt]
    unfold Dig at hdi
    have e1 : ((t[i].toNat : Int) - 48) % 256 = ((t[i].toNat - 48 : Nat) : Int) := by omega
    rw [e1]
    have hu : t[i].toNat - 48 ≤ 9 := by omega
    generalize hdv : t[i].toNat - 48 = dv at hu ⊢
    have e2 : Int.tdiv ((-9223372036854775808) + (dv : Int)) 10 = -(((9223372036854775808 - dv) / 10 : Nat) : Int) := by
      rw [show (-9223372036854775808 : Int) + (dv : Int) = -((9223372036854775808 - dv : Nat) : Int) by omega, tdiv_neg]
    have ev : valF v (t[i] :: t.drop (i + 1)) = valF (v * 10 + dv) (t.drop (i + 1)) := by rw [← hdv]; rfl
    rw [e2, w64 (a := -(((9223372036854775808 - dv) / 10 : Nat) : Int)) (by omega) (by omega), ev]
    by_cases h : 9223372036854775808 < v * 10 + dv
    · have hge := valF_ge (t.drop (i + 1)) (v * 10 + dv)
      rw [if_pos (by omega)]
      unfold fin
      rw [if_neg (show ¬ valF (v * 10 + dv) (t.drop (i + 1)) ≤ 9223372036854775808 by omega), if_neg (show ¬ valF (v * 10 + dv) (t.drop (i + 1)) < 9223372036854775808 by omega)]
      split <;> rfl
    · rw [if_neg (by omega), w64 (a := 10 * -(v : Int)) (by omega) (by omega), w64 (a := 10 * -(v : Int) - (dv : Int)) (by omega) (by omega), w64s (by omega)]
      have := ih (i + 1) k (v * 10 + dv) (by omega) (by omega) (by omega) hdr
      rw [show 10 * -(v : Int) - (dv : Int) = -((v * 10 + dv : Nat) : Int) by omega]
      exact this
theorem l0_eq {n : Nat} {t : T} (x0 : ByteArray) (hx : x0.size = n) (ht : t.length ≤ 100000) (d : Nat) : ∀ (i k : Nat), i + d = t.length → d + t.length + 1 < k → (∀ c ∈ t.take i, Dig c) →
    ebbtideref01_Read.l0 k x0 (mk t) (i : Int) = some (if ∀ c ∈ t, Dig c then fin (decide (t.length < n)) (val t) else (0, 2)) := by
  induction d with
  | zero =>
    intro i k hi hk hd
    obtain ⟨k, rfl⟩ := succ_of hk
    rw [List.take_of_length_le (by omega)] at hd
    rw [ebbtideref01_Read.l0, mk_size, if_neg (by omega), if_pos hd]
    have := l1_eq x0 hx ht t.length 0 k 0 (by omega) (by omega) (by omega) hd
    exact this
  | succ d ih =>
    intro i k hi hk hd
    obtain ⟨k, rfl⟩ := succ_of hk
    have hlt : i < t.length := by omega
    rw [ebbtideref01_Read.l0, mk_size, if_pos (by omega), if_pos (by omega), bt_mk hlt]
    by_cases h : Dig t[i]
    · have h' := h
      unfold Dig at h'
      rw [if_neg (by omega), if_neg (by omega), w64s (by omega)]
      refine ih (i + 1) k (by omega) (by omega) fun c hc => ?_
      rw [take_at hlt, List.mem_append, List.mem_singleton] at hc
      rcases hc with hc | rfl
      · exact hd c hc
      · exact h
    · have ha : ¬ ∀ c ∈ t, Dig c := fun g => h (g _ (List.getElem_mem hlt))
      unfold Dig at h
      rw [if_neg ha]
      by_cases h1 : (t[i].toNat : Int) < 48
      · rw [if_pos h1]
      · rw [if_neg h1, if_pos (by omega)]
theorem l0_at {n : Nat} {t : T} (x0 : ByteArray) (hx : x0.size = n) (ht : t.length ≤ 400) {k : Nat} (hk : 900 ≤ k) :
    ebbtideref01_Read.l0 k x0 (mk t) 0 = some (if ∀ c ∈ t, Dig c then fin (decide (t.length < n)) (val t) else (0, 2)) :=
  l0_eq x0 hx (by omega) t.length 0 k (by omega) (by omega) (by intro c hc; rw [List.take_zero] at hc; exact absurd hc List.not_mem_nil)
theorem rread_eq {l : T} (hl : l.length ≤ 400) {k : Nat} (hk : 1000 ≤ k) : ebbtideref01_Read.f k (mk l) = some (readS l) := by
  obtain ⟨k, rfl⟩ : ∃ m, k = m + 3 := ⟨k - 3, by omega⟩
  unfold ebbtideref01_Read.f readS
  match l with
  | [] => rfl
  | [c] =>
    have hb : bt (mk [c]) 0 = (c.toNat : Int) := bt_mk (l := [c]) (i := 0) (by simp)
    have hz : ((mk [c]).size : Int) = 1 := by rw [mk_size]; rfl
    rw [hz, if_neg (by decide), ebbtideref01_Read.j0, if_neg (by decide), ebbtideref01_Read.j1, hz, if_neg (by decide), if_pos (by decide), hb, decide_eq_false (by decide), ite_self, ebbtideref01_Read.j2, if_neg (by decide), l0_at _ (mk_size [c]) (by simp) (by omega)]
    congr 1
    by_cases h : Dig c
    · have h' : c ≠ 45 := fun e => by subst e; exact absurd h (by decide)
      have es : strip [c] = [c] := by unfold strip; rw [if_neg (by simpa using h')]
      have ha : ∀ x ∈ [c], Dig x := fun x hx => by rw [List.mem_singleton] at hx; rw [hx]; exact h
      have hn : Num [c] := ⟨by simp, fun e => by simpa using e, ha⟩
      rw [es, if_pos ha, if_pos ⟨hn, by simp⟩, decide_eq_false (show ¬ [c].head? = some 45 by simpa using h')]
      rfl
    · rw [if_neg (fun g => h (g c List.mem_cons_self)), if_neg]
      intro g
      have g2 := g.1.2.2
      have g1 := g.1.1
      unfold strip at g1 g2
      by_cases h' : c = 45
      · subst h'
        exact g1 rfl
      · rw [if_neg (by simpa using h')] at g2
        exact h (g2 c List.mem_cons_self)
  | c :: e :: r =>
    have hb : bt (mk (c :: e :: r)) 0 = (c.toNat : Int) := bt_mk (l := c :: e :: r) (i := 0) (by simp)
    have hz : (mk (c :: e :: r)).size = r.length + 2 := by rw [mk_size]; rfl
    rw [hz, if_pos (by omega), if_pos (by omega), hb, ebbtideref01_Read.j0]
    by_cases hc : c = 45
    · subst hc
      have es : strip (45 :: e :: r) = e :: r := rfl
      have hb2 : bt (mk (e :: r)) 0 = (e.toNat : Int) := bt_mk (l := e :: r) (i := 0) (by simp)
      have hz2 : (mk (e :: r)).size = r.length + 1 := by rw [mk_size]; rfl
      rw [if_pos (by rfl), hz, if_pos (by omega)]
      have ed : (mk (45 :: e :: r)).extract 1 (r.length + 2) = mk (e :: r) := by rw [← hz, mk_from]; rfl
      rw [ed, ebbtideref01_Read.j1, hz2, if_neg (by omega), if_pos (by omega), hb2, hz, es]
      by_cases he : e = 48
      · subst he
        rw [if_pos (by rfl), decide_eq_true (by omega), ebbtideref01_Read.j2, if_pos rfl, if_neg]
        intro g
        have := g.1.2.1 rfl
        exact g.2 (by rw [this])
      · have he' : ¬ (e.toNat : Int) = 48 := fun g => he (byte_eq.mp (show (e.toNat : Int) = ((48 : UInt8).toNat : Int) from g))
        rw [if_neg he', ebbtideref01_Read.j2, if_neg (by decide), l0_at _ hz (by simp only [List.length_cons] at hl ⊢; omega) (by omega)]
        congr 1
        by_cases ha : ∀ x ∈ e :: r, Dig x
        · rw [if_pos ha, if_pos ⟨⟨by simp, fun g => absurd (by simpa using g) he, ha⟩, fun g => by injection g with _ g; injection g with g _; exact he g⟩, decide_eq_true (by simp only [List.length_cons]; omega)]
          rfl
        · rw [if_neg ha, if_neg (fun g => ha g.1.2.2)]
    · have es : strip (c :: e :: r) = c :: e :: r := by unfold strip; rw [if_neg (by simpa using hc)]
      have hc' : ((c.toNat : Int) == 45) = false := beq_eq_false_iff_ne.mpr fun g => hc (byte_eq.mp (show (c.toNat : Int) = ((45 : UInt8).toNat : Int) from g))
      rw [hc', if_neg (by decide), ebbtideref01_Read.j1, hz, if_neg (by omega), if_pos (by omega), hb, es]
      by_cases he : c = 48
      · subst he
        rw [if_pos (by rfl), decide_eq_true (by omega), ebbtideref01_Read.j2, if_pos rfl, if_neg]
        intro g
        have := g.1.2.1 rfl
        simp at this
      · have he' : ¬ (c.toNat : Int) = 48 := fun g => he (byte_eq.mp (show (c.toNat : Int) = ((48 : UInt8).toNat : Int) from g))
        rw [if_neg he', ebbtideref01_Read.j2, if_neg (by decide), l0_at _ hz (by simp only [List.length_cons] at hl ⊢; omega) (by omega)]
        congr 1
        by_cases ha : ∀ x ∈ c :: e :: r, Dig x
        · rw [if_pos ha, if_pos ⟨⟨by simp, fun g => absurd (by simpa using g) he, ha⟩, fun g => by injection g with g _; exact hc g⟩, decide_eq_false (by simp only [List.length_cons]; omega), decide_eq_false (show ¬ (c :: e :: r).head? = some 45 by simpa using hc)]
        · rw [if_neg ha, if_neg (fun g => ha g.1.2.2)]
/-- What a text with its mark is parsed as. -/
def parseS (l : T) : Int × Bool × Int :=
  if l.getLast? = some 33 then (if (readS l.dropLast).2 = 0 then ((readS l.dropLast).1, true, 0) else (0, false, (readS l.dropLast).2))
  else (if (readS l).2 = 0 then ((readS l).1, false, 0) else (0, false, (readS l).2))
theorem parse_33 (r : T) : parseS (r ++ [33]) = if (readS r).2 = 0 then ((readS r).1, true, 0) else (0, false, (readS r).2) := by
  unfold parseS
  rw [if_pos (by simp), List.dropLast_concat]
theorem parse_o {l : T} (h : ¬ l.getLast? = some 33) : parseS l = if (readS l).2 = 0 then ((readS l).1, false, 0) else (0, false, (readS l).2) := by
  unfold parseS
  rw [if_neg h]
theorem last_mk (r : T) (c : UInt8) (h : (r ++ [c]).length ≤ 400) : wrap64 (((mk (r ++ [c])).size : Int) - 1) = (r.length : Int) ∧ ((mk (r ++ [c])).size : Int) = (r.length : Int) + 1 ∧ bt (mk (r ++ [c])) (r.length : Int) = (c.toNat : Int) := by
  have es : ((mk (r ++ [c])).size : Int) = (r.length : Int) + 1 := by rw [mk_size, List.length_append, List.length_singleton]; omega
  rw [List.length_append] at h
  refine ⟨by rw [es, w64 (by omega) (by omega)]; omega, es, ?_⟩
  rw [bt_mk (l := r ++ [c]) (i := r.length) (by simp)]
  simp
theorem suffix_eq (l : T) (h : l.length ≤ 400) : strings_TrimSuffix.f (mk l) (⟨#[33]⟩ : ByteArray) = some (mk (if l.getLast? = some 33 then l.dropLast else l)) := by
  unfold strings_TrimSuffix.f stringslite_TrimSuffix.f stringslite_HasSuffix.f
  have e1 : ((⟨#[33]⟩ : ByteArray).size : Int) = 1 := rfl
  rw [e1]
  rcases List.eq_nil_or_concat l with rfl | ⟨r, c, rfl⟩
  · rfl
  · rw [List.concat_eq_append] at h ⊢
    obtain ⟨h1, h2, _⟩ := last_mk r c h
    have et : (⟨#[33]⟩ : ByteArray).toList = [33] := mk_toList [33]
    have ex : (mk (r ++ [c])).extract r.length (mk (r ++ [c])).size = mk [c] := by rw [mk_from, List.drop_left]
    have ey : (mk (r ++ [c])).extract 0 r.length = mk r := by rw [mk_upto, List.take_left]
    have ei : ((r.length : Int)).toNat = r.length := by omega
    rw [h1, ei, ex, ey, h2, if_pos (by omega), if_pos (by omega), if_pos (by omega), mk_toList, et, Option.bind_some]
    by_cases hc : c = 33
    · subst hc
      rw [if_pos (by rfl), if_pos (by omega), if_pos (by omega), if_pos (by simp), List.dropLast_concat]
      rfl
    · rw [if_neg (by simpa using hc), if_neg (by simpa using hc)]
      rfl
theorem parse_eq {l : T} (h : l.length ≤ 400) : sat_Parse.f (mk l) = some (parseS l) := by
  unfold sat_Parse.f parseS
  rw [suffix_eq l h, Option.bind_some, mk_toList, mk_toList]
  by_cases hg : l.getLast? = some 33
  · rw [if_pos hg, if_pos hg, read_eq (by rw [List.length_dropLast]; omega), Option.bind_some]
    have hne : (l.dropLast != l) = true := by
      rw [bne_iff_ne]
      intro e
      have e2 := congrArg List.length e
      rw [List.length_dropLast] at e2
      have : l = [] := List.eq_nil_of_length_eq_zero (by omega)
      rw [this] at hg
      exact absurd hg (by simp)
    rw [hne]
    split <;> rfl
  · rw [if_neg hg, if_neg hg, read_eq (by omega), Option.bind_some, bne_self_eq_false]
    split <;> rfl
theorem rparse_eq {l : T} (h : l.length ≤ 400) {k : Nat} (hk : 1001 ≤ k) : ebbtideref01_Parse.f k (mk l) = some (parseS l) := by
  obtain ⟨k, rfl⟩ := succ_of (show 0 < k by omega)
  unfold ebbtideref01_Parse.f
  rcases List.eq_nil_or_concat l with rfl | ⟨r, c, rfl⟩
  · have e : ((mk []).size : Int) = 0 := rfl
    rw [e, if_neg (by decide), ebbtideref01_Parse.j0, if_neg (by decide), rread_eq h (by omega), Option.bind_some, parse_o (by decide)]
    split <;> rfl
  · rw [List.concat_eq_append] at h ⊢
    obtain ⟨h1, h2, h3⟩ := last_mk r c h
    have ey : (mk (r ++ [c])).extract 0 r.length = mk r := by rw [mk_upto, List.take_left]
    have ei : ((r.length : Int)).toNat = r.length := by omega
    rw [h1, h2, h3, if_pos (by omega), if_pos (by omega), if_pos (by omega), ebbtideref01_Parse.j0]
    by_cases hc : c = 33
    · subst hc
      have e33 : (((33 : UInt8).toNat : Int) == 33) = true := rfl
      rw [e33, if_pos rfl, h1, h2, if_pos (by omega), if_pos (by omega), ei, ey, rread_eq (by rw [List.length_append] at h; omega) (by omega), Option.bind_some, parse_33]
      split <;> rfl
    · have hc' : ((c.toNat : Int) == 33) = false := beq_eq_false_iff_ne.mpr fun g => hc (byte_eq.mp (show (c.toNat : Int) = ((33 : UInt8).toNat : Int) from g))
      rw [hc', if_neg (by decide), rread_eq h (by omega), Option.bind_some, parse_o (by simpa using hc)]
      split <;> rfl
end Go.Proofs.YtplfiioggbafhaaDoor.Pure
