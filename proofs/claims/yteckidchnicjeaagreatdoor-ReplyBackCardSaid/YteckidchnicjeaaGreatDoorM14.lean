/- Plain facts on what the printed functions compute, joined; each says its conditions. -/
import Derived.Test.YteckidchnicjeaaGreatDoorM13
import Derived.Test.YteckidchnicjeaaGreatDoorM8
import Derived.Test.YteckidchnicjeaaGreatDoorM5
import Derived.Test.YteckidchnicjeaaGreatDoorM7
import Derived.Test.YteckidchnicjeaaGreatDoorM4
import Derived.Test.YteckidchnicjeaaGreatDoorM9
import Derived.Test.YteckidchnicjeaaGreatDoorM11
import Derived.Test.YteckidchnicjeaaGreatDoorM10
import Derived.Test.YteckidchnicjeaaGreatDoorM12
section
namespace Go.Proofs.YteckidchnicjeaaGreatDoor.Pure
open Go.RowKit Go.Proofs.YteckidchnicjeaaGreatDoor.X Go.Proofs.YteckidchnicjeaaGreatDoorW.PrintWords Go.Proofs.YteckidchnicjeaaGreatDoorW.PrintLast Go.Proofs.YteckidchnicjeaaGreatDoorW.PrintMore Go.Proofs.YteckidchnicjeaaGreatDoor.Aid Go.Proofs.YteckidchnicjeaaGreatDoor.Bytes Go.Proofs.YteckidchnicjeaaGreatDoor.Decs
theorem cutp_eq (l : T) : strings_CutPrefix.f (mk l) (⟨#[33]⟩ : ByteArray) = some (mk (if l.head? = some 33 then l.drop 1 else l), decide (l.head? = some 33)) := by
 unfold strings_CutPrefix.f stringslite_CutPrefix.f stringslite_HasPrefix.f
 have e1 : ((⟨#[33]⟩ : ByteArray).size : Int) = 1 := rfl
 rw [e1]
 cases l with
 | nil => rfl
 | cons c r =>
  have es : ((mk (c :: r)).size : Int) = (r.length : Int) + 1 := by rw [mk_size, List.length_cons]; omega
  have ei : ((1 : Int)).toNat = 1 := rfl
  have et : (⟨#[33]⟩ : ByteArray).toList = [33] := mk_toList [33]
  rw [es, if_pos (by omega), if_pos (by omega), if_pos (by omega), ei, mk_upto, mk_toList, et, Option.bind_some]
  by_cases h : c = 33
  ·
   subst h
   rw [if_pos (by rfl), if_pos (by omega), if_pos (by omega), mk_from]
   rfl
  ·
   rw [if_neg (by simpa using h)]
   simp [h]
def zC : Ch := ⟨zR, false⟩
def leafC (t : T) : Ch × Int :=
 match spl 124 t with
 | [a, b] => if (readS a).2 = 0 then (if grp b = 0 then (⟨⟨(readS a).1, mk b, ⟨0, false⟩⟩, true⟩, 0) else (zC, grp b)) else (zC, (readS a).2)
 | _ => (zC, 2)
theorem leafC_2 {t a b : T} (h : spl 124 t = [a, b]) : leafC t = if (readS a).2 = 0 then (if grp b = 0 then (⟨⟨(readS a).1, mk b, ⟨0, false⟩⟩, true⟩, 0) else (zC, grp b)) else (zC, (readS a).2) := by
 unfold leafC
 rw [h]
theorem leafC_o {t : T} (h : (spl 124 t).length ≠ 2) : leafC t = (zC, 2) := by
 unfold leafC
 match hs : spl 124 t, h with
 | [], _ => rfl
 | [a], _ => rfl
 | [a, b], h => exact absurd rfl h
 | a :: b :: c :: L, _ => rfl
def TellsC (x : Option (Int × ByteArray × Int × Bool × Bool × Int)) (y : Ch × Int) : Prop := ∃ (w : Int) (g : ByteArray) (v : Int) (o d : Bool), x = some (w, g, v, o, d, y.2) ∧ (y.2 = 0 → (⟨⟨w, g, ⟨v, o⟩⟩, d⟩ : Ch) = y.1)
theorem two_ {L : List T} (h : L.length = 2) : ∃ a b, L = [a, b] := by
 match L, h with
 | [a, b], _ => exact ⟨a, b, rfl⟩
theorem q0 (a b : T) : rdOf ByteArray.empty ([a, b].map mk) 0 = mk a := rfl
theorem q1 (a b : T) : rdOf ByteArray.empty ([a, b].map mk) 1 = mk b := rfl
theorem leaf_tells {t : T} (ht : t.length ≤ 600) {k : Nat} (hk : 30000 ≤ k) : TellsC (diff_leaves.f k (mk t)) (leafC t) := by
 unfold diff_leaves.f
 rw [show (124 : Int) = ((124 : UInt8).toNat : Int) from rfl, split_eq 124 (by omega) k (by omega), Option.bind_some]
 by_cases h : (spl 124 t).length = 2
 ·
  obtain ⟨a, b, hs⟩ := two_ h
  have sa := spl_short 124 t a (by rw [hs]; simp)
  have sb := spl_short 124 t b (by rw [hs]; simp)
  obtain ⟨g1, g2⟩ := parseG_sh (s := b) (by omega)
  rw [hs, leafC_2 hs, if_pos (by simp), if_pos (by simp), if_pos (by simp), q0, q1, read_eq (by omega), Option.bind_some]
  by_cases h1 : (readS a).2 = 0
  ·
   rw [if_pos h1, if_pos h1, parse_eq (by omega) hk, Option.bind_some]
   unfold grp
   by_cases h2 : (parseG b).2 = 0
   ·
    rw [if_pos h2, if_pos h2, ttext_eq g1 (by omega) (by omega), Option.bind_some, mk_toList, mk_toList]
    by_cases h3 : tagsT (parseG b).1 = b
    ·
     rw [if_pos h3, if_pos h3, if_pos rfl, h2]
     exact ⟨_, _, _, _, _, rfl, fun _ => rfl⟩
    ·
     rw [if_neg h3, if_neg h3, if_neg (by decide)]
     exact ⟨_, _, _, _, _, rfl, fun e => absurd e (by decide)⟩
   ·
    rw [if_neg h2, if_neg h2, if_neg h2]
    exact ⟨_, _, _, _, _, rfl, fun e => absurd e h2⟩
  ·
   rw [if_neg h1, if_neg h1]
   exact ⟨_, _, _, _, _, rfl, fun e => absurd e h1⟩
 ·
  rw [leafC_o h, if_neg (by rw [List.length_map]; omega)]
  exact ⟨_, _, _, _, _, rfl, fun e => absurd e (by decide)⟩
def oneC (t : T) : Ch × Int := if t.head? = some 33 then leafC (t.drop 1) else if t = [45] then (zC, 2) else if (oneR t).2 = 0 then (newC (oneR t).1, 0) else (zC, (oneR t).2)
theorem onec_tells {t : T} (ht : t.length ≤ 600) (h59 : (59 : UInt8) ∉ t) {k : Nat} (hk : 42000 ≤ k) : TellsC (diff_one.f k (mk t)) (oneC t) := by
 unfold diff_one.f oneC
 rw [cutp_eq, Option.bind_some]
 by_cases h : t.head? = some 33
 ·
  rw [decide_eq_true h, if_pos rfl, if_pos h, if_pos h]
  obtain ⟨w, g, v, o, d, e, f⟩ := leaf_tells (t := t.drop 1) (by rw [List.length_drop]; omega) (k := k) (by omega)
  rw [e, Option.bind_some]
  exact ⟨w, g, v, o, d, rfl, f⟩
 ·
  rw [decide_eq_false h, if_neg Bool.false_ne_true, if_neg h, rows_parse ht (by omega), Option.bind_some]
  by_cases h2 : t = [45]
  ·
   rw [if_pos h2]
   unfold parseR
   rw [if_pos h2]
   exact ⟨_, _, _, _, _, rfl, fun e => absurd e (by decide)⟩
  ·
   rw [if_neg h2, parseR_one h2 h59]
   by_cases h3 : (oneR t).2 = 0
   ·
    rw [if_pos h3, if_pos h3]
    exact ⟨_, _, _, _, _, rfl, fun _ => rfl⟩
   ·
    rw [if_neg h3, if_neg h3, if_neg h3]
    exact ⟨_, _, _, _, _, rfl, fun e => absurd e h3⟩
theorem oneC_back {t : T} (h : (oneC t).2 = 0) (ht : t.length ≤ 600) : chT (oneC t).1 = t ∧ GRow (oneC t).1.f0 ∧ (oneC t).1.f0.f1.size ≤ 600 := by
 unfold oneC at h ⊢
 by_cases h0 : t.head? = some 33
 ·
  rw [if_pos h0] at h ⊢
  obtain ⟨r, rfl⟩ : ∃ r, t = 33 :: r := by
   cases t with
   | nil => cases h0
   | cons c r => injection h0 with h0; exact ⟨r, by rw [h0]⟩
  rw [show (33 :: r : T).drop 1 = r from rfl] at h ⊢
  rw [List.length_cons] at ht
  by_cases hl : (spl 124 r).length = 2
  ·
   obtain ⟨a, b, hs⟩ := two_ hl
   have sb := spl_short 124 r b (by rw [hs]; simp)
   rw [leafC_2 hs] at h ⊢
   by_cases h1 : (readS a).2 = 0
   ·
    rw [if_pos h1] at h ⊢
    by_cases h2 : grp b = 0
    ·
     rw [if_pos h2]
     obtain ⟨i1, e1⟩ := read_back h1
     have hj := join_spl 124 r
     rw [hs] at hj
     have hz : (mk b).size ≤ 600 := by rw [mk_size]; omega
     refine ⟨?_, ⟨i1, by show (mk b).size ≤ 1000; omega, (show I64 0 from ⟨by decide, by decide⟩)⟩, hz⟩
     unfold chT
     rw [if_pos rfl]
     show [33] ++ (Lib.itoa (readS a).1 ++ [124] ++ bl (mk b)) = 33 :: r
     rw [e1, show bl (mk b) = b from mk_data b]
     conv => rhs; rw [← hj]
     simp [Lib.join_cons, Lib.joinTail]
    ·
     rw [if_neg h2] at h
     exact absurd h h2
   ·
    rw [if_neg h1] at h
    exact absurd h h1
  ·
   rw [leafC_o hl] at h
   exact absurd h (by decide)
 ·
  rw [if_neg h0] at h ⊢
  by_cases h2 : t = [45]
  ·
   rw [if_pos h2] at h
   exact absurd h (by decide)
  ·
   rw [if_neg h2] at h ⊢
   by_cases h3 : (oneR t).2 = 0
   ·
    rw [if_pos h3]
    obtain ⟨e, g⟩ := oneR_back h3 ht
    exact ⟨e, g, oneR_sz h3 ht⟩
   ·
    rw [if_neg h3] at h
    exact absurd h h3
def chsP : List T → List Ch → List Ch × Int
 | [], acc => if rightC acc = true then (acc, 0) else ([], 9)
 | t :: L, acc => if (oneC t).2 = 0 then chsP L (acc ++ [(oneC t).1]) else ([], (oneC t).2)
def parseC (s : T) : List Ch × Int := if s = [45] then ([], 0) else chsP (spl 59 s) []
theorem chs_l0 {L : List T} (hL : ∀ p ∈ L, p.length ≤ 600 ∧ (59 : UInt8) ∉ p) (hn : L.length ≤ 1000) (d : Nat) : ∀ (i k : Nat) (acc : List Ch), i + d = L.length → d + 43000 < k → acc.length ≤ i → (∀ c ∈ acc, c.f0.f1.size ≤ 600) →
 diff_Parse.l0 k acc (L.map mk) (L.length : Int) (i : Int) = some (chsP (L.drop i) acc) := by
 induction d with
 | zero =>
  intro i k acc hi hk ha hz
  obtain ⟨k, rfl⟩ := succ_of (show 0 < k by omega)
  have hs : ShR (acc.map (·.f0)) := fun x hx => by
   obtain ⟨c, hc, rfl⟩ := List.mem_map.1 hx
   have := hz c hc
   omega
  simp only [diff_Parse.l0]
  rw [if_neg (by omega), List.drop_of_length_le (by omega), cright_eq hs (by omega) (by omega), Option.bind_some, chsP]
  split
  ·
   rfl
  ·
   rfl
 | succ d ih =>
  intro i k acc hi hk ha hz
  obtain ⟨k, rfl⟩ := succ_of (show 0 < k by omega)
  have hlt : i < L.length := by omega
  obtain ⟨hp, hq⟩ := hL _ (List.getElem_mem hlt)
  obtain ⟨w, g, v, o, d2, e1, f1⟩ := onec_tells hp hq (k := k) (by omega)
  simp only [diff_Parse.l0]
  rw [List.length_map, if_pos (by omega), if_pos (by omega), if_pos (by omega), rdm hlt, e1, drop_at hlt, chsP, w64s (by omega)]
  simp only [Option.bind_some]
  by_cases h : (oneC L[i]).2 = 0
  ·
   rw [if_pos h, if_pos h, if_pos (by omega), f1 h]
   refine ih (i + 1) k _ (by omega) (by omega) (by rw [List.length_append, List.length_singleton]; omega) fun c hc => ?_
   rcases List.mem_append.1 hc with hc | hc
   ·
    exact hz c hc
   ·
    rw [List.mem_singleton.1 hc]
    exact (oneC_back h hp).2.2
  ·
   rw [if_neg h, if_neg h]
theorem chs_back : ∀ (L : List T) (acc : List Ch), (∀ p ∈ L, p.length ≤ 600) → (chsP L acc).2 = 0 → (chsP L acc).1.map chT = acc.map chT ++ L ∧ ((∀ c ∈ acc, GRow c.f0) → ∀ c ∈ (chsP L acc).1, GRow c.f0)
 | [], acc, _, h => by
  rw [chsP] at h ⊢
  by_cases hr : rightC acc = true
  ·
   rw [if_pos hr]
   exact ⟨by simp, fun g => g⟩
  ·
   rw [if_neg hr] at h
   exact absurd h (by decide)
 | t :: L, acc, hL, h => by
  rw [chsP] at h ⊢
  by_cases ho : (oneC t).2 = 0
  ·
   rw [if_pos ho] at h ⊢
   obtain ⟨e, g, _⟩ := oneC_back ho (hL t List.mem_cons_self)
   obtain ⟨e2, g2⟩ := chs_back L (acc ++ [(oneC t).1]) (fun p hp => hL p (List.mem_cons_of_mem _ hp)) h
   refine ⟨by rw [e2, List.map_append, List.map_cons, List.map_nil, e]; simp, fun ga => g2 fun c hc => ?_⟩
   rcases List.mem_append.1 hc with hc | hc
   ·
    exact ga c hc
   ·
    rw [List.mem_singleton.1 hc]
    exact g
  ·
   rw [if_neg ho] at h
   exact absurd h ho
theorem cparse_eq {s : T} (hs : s.length ≤ 600) {k : Nat} (hk : 45000 ≤ k) : diff_Parse.f k (mk s) = some (parseC s) := by
 unfold diff_Parse.f parseC
 rw [mk_toList]
 by_cases h : s = [45]
 ·
  rw [if_pos h, if_pos h]
 ·
  have hl := spl_len 59 s
  have := chs_l0 (L := spl 59 s) (fun p hp => ⟨by have := spl_short 59 s p hp; omega, spl_out 59 s p hp⟩) (by omega) (spl 59 s).length 0 k [] (by omega) (by omega) (by simp) (fun c hc => by simp at hc)
  rw [if_neg h, if_neg h, show (59 : Int) = ((59 : UInt8).toNat : Int) from rfl, split_eq 59 (by omega) k (by omega), Option.bind_some, List.length_map]
  exact this
theorem parse_len (s : T) : (parseC s).1.length ≤ s.length + 1 := by
 have hh : ∀ (L : List T) (acc : List Ch), (chsP L acc).1.length ≤ acc.length + L.length := by
  intro L
  induction L with
  | nil =>
   intro acc
   rw [chsP]
   split
   ·
    simp
   ·
    simp
  | cons t L ih =>
   intro acc
   rw [chsP]
   split
   ·
    have := ih (acc ++ [(oneC t).1])
    rw [List.length_append, List.length_singleton] at this
    rw [List.length_cons]
    omega
   ·
    simp
 unfold parseC
 split
 ·
  simp
 ·
  have := hh (spl 59 s) []
  have := spl_len 59 s
  rw [List.length_nil] at *
  omega
theorem parse_text {s : T} (hs : s.length ≤ 600) (h : (parseC s).2 = 0) : chsT (parseC s).1 = s ∧ GCh (parseC s).1 := by
 have hl := parse_len s
 unfold parseC at h hl ⊢
 by_cases h0 : s = [45]
 ·
  rw [if_pos h0]
  exact ⟨by rw [h0]; rfl, by simp, fun c hc => by cases hc⟩
 ·
  rw [if_neg h0] at h hl ⊢
  obtain ⟨e, g⟩ := chs_back (spl 59 s) [] (fun p hp => by have := spl_short 59 s p hp; omega) h
  refine ⟨?_, by omega, g (fun c hc => by cases hc)⟩
  rw [List.map_nil, List.nil_append] at e
  unfold chsT
  rw [if_neg (fun e2 => by rw [e2] at e; exact spl_ne 59 s e.symm), e, join_spl]
end Go.Proofs.YteckidchnicjeaaGreatDoor.Pure
end
section
namespace Go.Proofs.YteckidchnicjeaaGreatDoor.Pure
open Go.RowKit Go.Proofs.YteckidchnicjeaaGreatDoor.X Go.Proofs.YteckidchnicjeaaGreatDoorW.PrintWords Go.Proofs.YteckidchnicjeaaGreatDoorW.PrintLast Go.Proofs.YteckidchnicjeaaGreatDoorW.PrintMore Go.Proofs.YteckidchnicjeaaGreatDoor.Aid Go.Proofs.YteckidchnicjeaaGreatDoor.Bytes Go.Proofs.YteckidchnicjeaaGreatDoor.Decs
theorem okV_no {c : UInt8} (h : okV c = true) : c ≠ 59 ∧ c ≠ 124 ∧ c ≠ 44 := by
 unfold okV okN okS okD at h
 simp only [Bool.or_eq_true, Bool.and_eq_true, decide_eq_true_eq] at h
 refine ⟨?_, ?_, ?_⟩
 ·
  rintro rfl
  have : (59 : UInt8).toNat = 59 := rfl
  omega
 ·
  rintro rfl
  have : (124 : UInt8).toNat = 124 := rfl
  omega
 ·
  rintro rfl
  have : (44 : UInt8).toNat = 44 := rfl
  omega
theorem val_chars {l : T} (h : isVal l = true) : ∀ c ∈ l, okV c = true := by
 unfold isVal at h
 simp only [Bool.and_eq_true] at h
 exact List.all_eq_true.1 h.2.2
theorem name_chars {l : T} (h : isName l = true) : ∀ c ∈ l, okV c = true := by
 unfold isName at h
 simp only [Bool.and_eq_true] at h
 intro c hc
 have := List.all_eq_true.1 h.1.2.2 c hc
 unfold okV
 rw [this]
 rfl
theorem mem_join {c : UInt8} {s : T} : ∀ {L : List T}, c ∈ Lib.join L s → (∃ x ∈ L, c ∈ x) ∨ c ∈ s
 | [], h => by simp [Lib.join] at h
 | x :: L, h => by
  rw [Lib.join_cons, List.mem_append] at h
  rcases h with h | h
  ·
   exact .inl ⟨x, List.mem_cons_self, h⟩
  ·
   unfold Lib.joinTail at h
   rw [List.mem_flatten] at h
   obtain ⟨y, hy, hc⟩ := h
   obtain ⟨z, hz, rfl⟩ := List.mem_map.1 hy
   rcases List.mem_append.1 hc with hc | hc
   ·
    exact .inr hc
   ·
    exact .inl ⟨z, List.mem_cons_of_mem _ hz, hc⟩
theorem canS_may {l : List Tg} (h : (canS l).2 = 0) : ∀ x ∈ (canS l).1, mayG x = true := by
 intro x hx
 have hm := canS_mem x hx
 unfold canS at h
 by_cases ha : l.all mayG = true
 ·
  exact List.all_eq_true.1 ha x hm
 ·
  rw [if_neg ha] at h
  exact absurd h (by decide)
theorem grp_chars {b : T} (h : grp b = 0) : ∀ c ∈ b, okV c = true ∨ c = 61 ∨ c = 44 := by
 unfold grp at h
 by_cases h1 : (parseG b).2 = 0
 ·
  rw [if_pos h1] at h
  by_cases h2 : tagsT (parseG b).1 = b
  ·
   intro c hc
   rw [← h2] at hc
   unfold tagsT at hc
   have hmay : ∀ x ∈ (parseG b).1, mayG x = true := by
    unfold parseG at h1 ⊢
    by_cases h3 : b = []
    ·
     rw [if_pos h3]
     intro x hx
     cases hx
    ·
     rw [if_neg h3] at h1 ⊢
     by_cases h4 : (spl 44 b).all okG = true
     ·
      rw [if_pos h4] at h1 ⊢
      exact canS_may h1
     ·
      rw [if_neg h4] at h1
      exact absurd h1 (by decide)
   rcases mem_join hc with ⟨t, ht, hct⟩ | hct
   ·
    obtain ⟨x, hx, rfl⟩ := List.mem_map.1 ht
    have hm := hmay x hx
    unfold mayG nm at hm
    rw [Bool.and_eq_true] at hm
    unfold tagT at hct
    simp only [List.mem_append, List.mem_singleton] at hct
    rcases hct with (hct | hct) | hct
    ·
     exact .inl (name_chars hm.1 c hct)
    ·
     exact .inr (.inl hct)
    ·
     exact .inl (val_chars hm.2 c hct)
   ·
    exact .inr (.inr (List.mem_singleton.1 hct))
  ·
   rw [if_neg h2] at h
   exact absurd h (by decide)
 ·
  rw [if_neg h1] at h
  exact absurd h h1
theorem grp_no {b : T} (h : grp b = 0) : (59 : UInt8) ∉ b ∧ (124 : UInt8) ∉ b := by
 have hall := grp_chars h
 constructor
 ·
  intro hc
  rcases hall _ hc with h | h | h
  ·
   exact (okV_no h).1 rfl
  ·
   exact absurd h (by decide)
  ·
   exact absurd h (by decide)
 ·
  intro hc
  rcases hall _ hc with h | h | h
  ·
   exact (okV_no h).2.1 rfl
  ·
   exact absurd h (by decide)
  ·
   exact absurd h (by decide)
theorem itoa_chars {n : Int} : ∀ c ∈ Lib.itoa n, Dig c ∨ c = 45 := by
 intro c hc
 rw [itoa_sgn, List.mem_append] at hc
 rcases hc with hc | hc
 ·
  unfold sgn at hc
  split at hc
  ·
   exact .inr (List.mem_singleton.1 hc)
  ·
   cases hc
 ·
  exact .inl (dec_dig _ c hc)
theorem itoa_no (n : Int) : (59 : UInt8) ∉ Lib.itoa n ∧ (124 : UInt8) ∉ Lib.itoa n ∧ (33 : UInt8) ∉ Lib.itoa n := by
 refine ⟨fun h => ?_, fun h => ?_, fun h => ?_⟩
 all_goals
  rcases itoa_chars _ h with h | h
  ·
   revert h
   unfold Dig
   decide
  ·
   exact absurd h (by decide)
theorem txt_no (n : Int) (o : Bool) : (59 : UInt8) ∉ txt n o ∧ (124 : UInt8) ∉ txt n o := by
 obtain ⟨h1, h2, _⟩ := itoa_no n
 unfold txt
 cases o with
 | false => exact ⟨h1, h2⟩
 | true =>
  rw [if_pos rfl]
  constructor
  ·
   rw [List.mem_append]
   rintro (h | h)
   ·
    exact h1 h
   ·
    exact absurd (List.mem_singleton.1 h) (by decide)
  ·
   rw [List.mem_append]
   rintro (h | h)
   ·
    exact h2 h
   ·
    exact absurd (List.mem_singleton.1 h) (by decide)
def FitC (x : Ch) : Prop := GRow x.f0 ∧ x.f0.f1.size ≤ 300 ∧ bare x = true ∧ grp (bl x.f0.f1) = 0
theorem fit_no {x : Ch} (h : FitC x) : (59 : UInt8) ∉ chT x ∧ (124 : UInt8) ∈ chT x := by
 obtain ⟨a1, a2, _⟩ := itoa_no x.f0.f0
 obtain ⟨b1, b2⟩ := grp_no h.2.2.2
 obtain ⟨c1, c2⟩ := txt_no x.f0.f2.f0 x.f0.f2.f1
 unfold chT rowT
 split
 ·
  constructor
  ·
   simp only [List.mem_append, List.mem_singleton]
   rintro (h | (h | h) | h)
   ·
    exact absurd h (by decide)
   ·
    exact a1 h
   ·
    exact absurd h (by decide)
   ·
    exact b1 h
  ·
   simp
 ·
  constructor
  ·
   simp only [List.mem_append, List.mem_singleton]
   rintro ((((h | h) | h) | h) | h)
   ·
    exact a1 h
   ·
    exact absurd h (by decide)
   ·
    exact b1 h
   ·
    exact absurd h (by decide)
   ·
    exact c1 h
  ·
   simp
theorem fit_one {x : Ch} (h : FitC x) : oneC (chT x) = (x, 0) := by
 obtain ⟨hg, hz, hb, hgr⟩ := h
 obtain ⟨a1, a2, a3⟩ := itoa_no x.f0.f0
 obtain ⟨b1, b2⟩ := grp_no hgr
 obtain ⟨c1, c2⟩ := txt_no x.f0.f2.f0 x.f0.f2.f1
 have hm : mk (bl x.f0.f1) = x.f0.f1 := mk_eta _
 have hn45 := (fit_no ⟨hg, hz, hb, hgr⟩).2
 unfold oneC
 by_cases hx : x.f1 = true
 ·
  have e : chT x = 33 :: (Lib.itoa x.f0.f0 ++ 124 :: bl x.f0.f1) := by
   unfold chT
   rw [if_pos hx]
   simp
  have hs : spl 124 (Lib.itoa x.f0.f0 ++ 124 :: bl x.f0.f1) = [Lib.itoa x.f0.f0, bl x.f0.f1] := by rw [spl_app 124 _ _ a2, spl_no 124 _ b2]
  have hr := read_itoa hg.1
  rw [e, if_pos (show (33 :: (Lib.itoa x.f0.f0 ++ 124 :: bl x.f0.f1) : T).head? = some 33 from rfl), show (33 :: (Lib.itoa x.f0.f0 ++ 124 :: bl x.f0.f1) : T).drop 1 = Lib.itoa x.f0.f0 ++ 124 :: bl x.f0.f1 from rfl, leafC_2 hs]
  simp only [hr, hgr, hm, if_true]
  unfold bare at hb
  rw [hx] at hb
  simp only [Bool.not_true, Bool.false_or, Bool.and_eq_true, beq_iff_eq, Bool.not_eq_true'] at hb
  obtain ⟨⟨f0, f1, ⟨v, o⟩⟩, g⟩ := x
  simp only at hx hb
  obtain ⟨rfl, rfl⟩ := hb
  subst hx
  rfl
 ·
  have e : chT x = Lib.itoa x.f0.f0 ++ 124 :: (bl x.f0.f1 ++ 124 :: txt x.f0.f2.f0 x.f0.f2.f1) := by
   unfold chT rowT
   rw [if_neg hx]
   simp
  have hs : spl 124 (chT x) = [Lib.itoa x.f0.f0, bl x.f0.f1, txt x.f0.f2.f0 x.f0.f2.f1] := by rw [e, spl_app 124 _ _ a2, spl_app 124 _ _ b2, spl_no 124 _ c2]
  have hh : ¬ (chT x).head? = some 33 := by
   intro h
   rw [e] at h
   cases hi : Lib.itoa x.f0.f0 with
   | nil =>
    rw [hi] at h
    exact absurd h (by simp)
   | cons c r =>
    rw [hi] at h
    have : c = 33 := by simpa using h
    exact a3 (by rw [hi, this]; exact List.mem_cons_self)
  have h45 : ¬ chT x = [45] := by
   intro h
   rw [h] at hn45
   exact absurd hn45 (by decide)
  have hr := read_itoa hg.1
  have hp := parse_txt hg.2.2 x.f0.f2.f1
  rw [if_neg hh, if_neg h45, oneR_3 hs]
  simp only [hr, hp, hgr, hm, if_true]
  obtain ⟨⟨f0, f1, ⟨v, o⟩⟩, g⟩ := x
  have : g = false := Bool.eq_false_iff.2 hx
  subst this
  rfl
theorem chs_fit : ∀ (c acc : List Ch), (∀ x ∈ c, FitC x) → chsP (c.map chT) acc = if rightC (acc ++ c) = true then (acc ++ c, 0) else ([], 9)
 | [], acc, _ => by
  rw [List.map_nil, chsP, List.append_nil]
 | x :: c, acc, h => by
  rw [List.map_cons, chsP, fit_one (h x List.mem_cons_self), if_pos rfl, chs_fit c _ (fun y hy => h y (List.mem_cons_of_mem _ hy)), List.append_assoc]
  rfl
theorem split_big (c : UInt8) {l : T} (hl : l.length ≤ 90000) (k : Nat) (hk : 90010 < k) : word_Split.f k (mk l) (c.toNat : Int) = some ((spl c l).map mk) :=
 split_l0 c 90000 l k [] hl (by omega) (by simp)
theorem fit_len {x : Ch} (h : FitC x) : (chT x).length ≤ 600 := by
 have h1 := itoa_len h.1.1
 have h2 := txt_len h.1.2.2 x.f0.f2.f1
 have h3 := h.2.1
 have h4 : (bl x.f0.f1).length = x.f0.f1.size := by rw [← mk_size, show mk (bl x.f0.f1) = x.f0.f1 from mk_eta _]
 unfold chT rowT
 split
 ·
  simp only [List.length_append, List.length_singleton]
  omega
 ·
  simp only [List.length_append, List.length_singleton]
  omega
theorem flat_len {n : Nat} : ∀ {L : List T}, (∀ p ∈ L, p.length ≤ n) → (Lib.joinTail [59] L).length ≤ L.length * (n + 1)
 | [], _ => by simp [Lib.joinTail]
 | p :: L, h => by
  have h1 := flat_len (L := L) (fun q hq => h q (List.mem_cons_of_mem _ hq))
  have h2 := h p List.mem_cons_self
  unfold Lib.joinTail at h1 ⊢
  rw [List.map_cons, List.flatten_cons, List.length_append, List.length_append, List.length_singleton, List.length_cons, Nat.succ_mul]
  omega
theorem parse_fit {c : List Ch} (hc : ∀ x ∈ c, FitC x) (hl : c.length ≤ 100) (hr : rightC c = true) {k : Nat} (hk : 100000 ≤ k) : diff_Parse.f k (mk (chsT c)) = some (c, 0) := by
 unfold diff_Parse.f
 rw [mk_toList]
 by_cases h : c = []
 ·
  rw [h]
  rfl
 ·
  have e : chsT c = Lib.join (c.map chT) [59] := by unfold chsT; rw [if_neg h]
  have hs : spl 59 (chsT c) = c.map chT := by
   rw [e]
   refine spl_join 59 _ (by simpa using h) fun t ht => ?_
   obtain ⟨x, hx, rfl⟩ := List.mem_map.1 ht
   exact (fit_no (hc x hx)).1
  have hmem : ∀ p ∈ c.map chT, p.length ≤ 600 ∧ (59 : UInt8) ∉ p := fun t ht => by
   obtain ⟨x, hx, rfl⟩ := List.mem_map.1 ht
   exact ⟨fit_len (hc x hx), (fit_no (hc x hx)).1⟩
  have h45 : ¬ chsT c = [45] := by
   intro h2
   rw [h2] at hs
   cases c with
   | nil => exact h rfl
   | cons x c =>
    have hx : chT x = [45] := by
     have : spl 59 [45] = [[45]] := by decide
     rw [this, List.map_cons] at hs
     injection hs with hs _
     exact hs.symm
    have := (fit_no (hc x List.mem_cons_self)).2
    rw [hx] at this
    exact absurd this (by decide)
  have hlen : (chsT c).length ≤ 90000 := by
   rw [e]
   cases c with
   | nil => exact absurd rfl h
   | cons x c =>
    have h1 := fit_len (hc x List.mem_cons_self)
    have h2 := flat_len (n := 600) (L := c.map chT) (fun p hp => (hmem p (by rw [List.map_cons]; exact List.mem_cons_of_mem _ hp)).1)
    rw [List.map_cons, Lib.join_cons, List.length_append]
    rw [List.length_map] at h2
    rw [List.length_cons] at hl
    omega
  have h0 := chs_l0 (L := c.map chT) hmem (by rw [List.length_map]; omega) (c.map chT).length 0 k [] (by omega) (by rw [List.length_map]; omega) (by simp) (fun c hc => by simp at hc)
  rw [if_neg h45, show (59 : Int) = ((59 : UInt8).toNat : Int) from rfl, split_big 59 hlen k (by omega), Option.bind_some, hs, List.length_map]
  have h1 : chsP (c.map chT) [] = (c, 0) := by rw [chs_fit c [] hc, List.nil_append, if_pos hr]
  rw [show ((0 : Nat) : Int) = 0 from rfl, List.drop_zero, h1] at h0
  exact h0
end Go.Proofs.YteckidchnicjeaaGreatDoor.Pure
end
section
namespace Go.Proofs.YteckidchnicjeaaGreatDoor.Pure
open Go.RowKit Go.Proofs.YteckidchnicjeaaGreatDoor.X Go.Proofs.YteckidchnicjeaaGreatDoorW.PrintWords Go.Proofs.YteckidchnicjeaaGreatDoorW.PrintLast Go.Proofs.YteckidchnicjeaaGreatDoorW.PrintMore Go.Proofs.YteckidchnicjeaaGreatDoor.Aid Go.Proofs.YteckidchnicjeaaGreatDoor.Bytes
set_option linter.unusedVariables false
theorem g_one (L : List T) (n : Nat) (hn : 0 < n) (x : T) : (reply_words.g (L.map mk) (n : Int) [mk x] 0).isSome = decide (L.length = n + 1 ∧ L.getD 0 [] = x) := by
 unfold reply_words.g
 rw [List.length_map]
 by_cases c : L.length = n + 1
 ·
  have h0 : 0 < L.length := by omega
  have e1 : L.getD 0 [] = L[0] := by rw [List.getD_eq_getElem?_getD, List.getElem?_eq_getElem h0]; rfl
  have r1 : rdOf ByteArray.empty (L.map mk) 0 = mk L[0] := rds (L := L) (i := 0) h0
  rw [if_pos (by omega), r1, mk_toList, mk_toList, e1]
  by_cases c2 : L[0] = x
  ·
   rw [if_pos c2, decide_eq_true ⟨c, c2⟩]
   rfl
  ·
   rw [if_neg c2, decide_eq_false (fun h => c2 h.2)]
   rfl
 ·
  rw [if_neg (by omega), decide_eq_false (fun h => c h.1)]
  rfl
def stS (l : T) : Int × Int := if (readS l).2 = 0 then (if (readS l).1 < 0 then (0, 3) else ((readS l).1, 0)) else (0, (readS l).2)
def at_ (L : List T) (i : Nat) : T := L.getD i []
theorem at_rd {L : List T} {i : Nat} (h : i < L.length) : rdOf ByteArray.empty (L.map mk) (i : Int) = mk (at_ L i) := by
 rw [rds h]
 unfold at_
 rw [List.getD_eq_getElem?_getD, List.getElem?_eq_getElem h]
 rfl
theorem at_len {L : List T} {m : Nat} (h : ∀ p ∈ L, p.length ≤ m) (i : Nat) : (at_ L i).length ≤ m := by
 unfold at_
 by_cases c : i < L.length
 ·
  rw [List.getD_eq_getElem?_getD, List.getElem?_eq_getElem c]
  exact h _ (List.getElem_mem c)
 ·
  rw [List.getD_eq_getElem?_getD, List.getElem?_eq_none (by omega)]
  exact Nat.zero_le _
def okW : T := [111, 107]
def rowsW : T := [114, 111, 119, 115]
def imageW : T := [105, 109, 97, 103, 101]
def diffW : T := [100, 105, 102, 102]
def resyncW : T := [114, 101, 115, 121, 110, 99]
def storedS (L : List T) : Int × Int := if L.length = 2 ∧ at_ L 0 = okW then stS (at_ L 1) else (0, 2)
theorem sp_eq {s : T} (hs : s.length ≤ 500) {k : Nat} (hk : 50000 ≤ k) : word_Split.f k (mk s) 32 = some ((spl 32 s).map mk) := by
 have hsp := split_eq 32 (l := s) (by omega) k (by omega)
 rw [show ((32 : UInt8).toNat : Int) = 32 from rfl] at hsp
 exact hsp
theorem stored_eq {s : T} (hs : s.length ≤ 500) {k : Nat} (hk : 50000 ≤ k) : reply_ReadStored.f k (mk s) = some (storedS (spl 32 s)) := by
 have hp : ∀ p ∈ spl 32 s, p.length ≤ 500 := fun p hp2 => Nat.le_trans (spl_short 32 s p hp2) hs
 unfold reply_ReadStored.f
 rw [sp_eq hs hk]
 simp only [Option.bind_some]
 generalize spl 32 s = L at hp
 have hg := g_one L 1 (by omega) okW
 rw [show ((1 : Nat) : Int) = 1 from rfl] at hg
 have hl1 := at_len hp 1
 rw [show ok_ = mk okW from rfl, hg]
 unfold storedS
 by_cases c : L.length = 2 ∧ at_ L 0 = okW
 ·
  have r1 := at_rd (L := L) (i := 1) (by omega)
  rw [show ((1 : Nat) : Int) = 1 from rfl] at r1
  rw [if_pos (decide_eq_true (show L.length = 1 + 1 ∧ L.getD 0 [] = okW from c)), if_pos c, r1, read_eq (by omega)]
  simp only [Option.bind_some]
  unfold stS
  by_cases c4 : (readS (at_ L 1)).2 = 0
  ·
   rw [if_pos c4, if_pos c4]
   by_cases c5 : (readS (at_ L 1)).1 < 0
   ·
    rw [if_pos c5, if_pos c5]
   ·
    rw [if_neg c5, if_neg c5]
  ·
   rw [if_neg c4, if_neg c4]
 ·
  rw [if_neg (fun h => c (show L.length = 1 + 1 ∧ L.getD 0 [] = okW from of_decide_eq_true h)), if_neg c]
def rowsS (L : List T) : Int × Int × List Rw × Int :=
 if L.length = 3 ∧ at_ L 0 = rowsW then (if (stS (at_ L 1)).2 = 0 then (if (parseR (at_ L 2)).2 = 0 then (0, (stS (at_ L 1)).1, (parseR (at_ L 2)).1, 0) else (0, 0, [], (parseR (at_ L 2)).2)) else (0, 0, [], (stS (at_ L 1)).2)) else (0, 0, [], 2)
theorem rows_read {s : T} (hs : s.length ≤ 500) {k : Nat} (hk : 50000 ≤ k) : reply_ReadRows.f k (mk s) = some (rowsS (spl 32 s)) := by
 have hp : ∀ p ∈ spl 32 s, p.length ≤ 500 := fun p hp2 => Nat.le_trans (spl_short 32 s p hp2) hs
 unfold reply_ReadRows.f
 rw [sp_eq hs hk]
 simp only [Option.bind_some]
 generalize spl 32 s = L at hp
 have hg := g_one L 2 (by omega) rowsW
 rw [show ((2 : Nat) : Int) = 2 from rfl] at hg
 have hl1 := at_len hp 1
 have hl2 := at_len hp 2
 rw [show rows_ = mk rowsW from rfl, hg]
 unfold rowsS
 by_cases c : L.length = 3 ∧ at_ L 0 = rowsW
 ·
  have r1 := at_rd (L := L) (i := 1) (by omega)
  rw [show ((1 : Nat) : Int) = 1 from rfl] at r1
  have r2 := at_rd (L := L) (i := 2) (by omega)
  rw [show ((2 : Nat) : Int) = 2 from rfl] at r2
  rw [if_pos (decide_eq_true (show L.length = 2 + 1 ∧ L.getD 0 [] = rowsW from c)), if_pos c, r1, r2, read_eq (by omega), rows_parse (s := at_ L 2) (by omega) (by omega)]
  simp only [Option.bind_some]
  unfold stS
  by_cases c4 : (readS (at_ L 1)).2 = 0
  ·
   rw [if_pos c4, if_pos c4]
   by_cases c5 : (readS (at_ L 1)).1 < 0
   ·
    rw [if_pos c5, if_pos c5]
    rfl
   ·
    rw [if_neg c5, if_neg c5, if_pos rfl]
    split <;> rfl
  ·
   rw [if_neg c4, if_neg c4, if_neg c4]
 ·
  rw [if_neg (fun h => c (show L.length = 2 + 1 ∧ L.getD 0 [] = rowsW from of_decide_eq_true h)), if_neg c]
def kindN (x : T) : Int := if x = imageW then 1 else if x = diffW then 2 else if x = resyncW then 3 else 0
theorem g_kinds (L : List T) : ∃ ks, reply_kinds.f = some ks ∧ ks.length ≤ 100 ∧ (L.length = 4 → kindN (at_ L 0) ≠ 0 → ∃ i : Nat, reply_words.g (L.map mk) 3 ks 0 = some i ∧ (i : Int) + 1 = kindN (at_ L 0)) ∧ (¬ (L.length = 4 ∧ kindN (at_ L 0) ≠ 0) → reply_words.g (L.map mk) 3 ks 0 = none) := by
 refine ⟨[mk imageW, mk diffW, mk resyncW], rfl, by decide, ?_⟩
 simp only [reply_words.g, List.length_map, mk_toList]
 by_cases c : L.length = 4
 ·
  have r0 := at_rd (L := L) (i := 0) (by omega)
  rw [show ((0 : Nat) : Int) = 0 from rfl] at r0
  have e : (L.length : Int) = 3 + 1 := by omega
  simp only [e, if_true, r0, mk_toList]
  unfold kindN
  by_cases c1 : at_ L 0 = imageW
  ·
   rw [if_pos c1, if_pos c1]
   exact ⟨fun _ _ => ⟨0, rfl, rfl⟩, fun h => absurd ⟨c, by decide⟩ h⟩
  ·
   rw [if_neg c1, if_neg c1]
   by_cases c2 : at_ L 0 = diffW
   ·
    rw [if_pos c2, if_pos c2]
    exact ⟨fun _ _ => ⟨1, rfl, rfl⟩, fun h => absurd ⟨c, by decide⟩ h⟩
   ·
    rw [if_neg c2, if_neg c2]
    by_cases c3 : at_ L 0 = resyncW
    ·
     rw [if_pos c3, if_pos c3]
     exact ⟨fun _ _ => ⟨2, rfl, rfl⟩, fun h => absurd ⟨c, by decide⟩ h⟩
    ·
     rw [if_neg c3, if_neg c3]
     exact ⟨fun _ h => absurd rfl h, fun _ => rfl⟩
 ·
  have e : ¬ (L.length : Int) = 3 + 1 := by omega
  simp only [e, if_false]
  exact ⟨fun h => absurd h c, fun _ => trivial⟩
abbrev MR := Int × Int × Int × List Rw × List Ch × Int
def badM (e : Int) : MR := (0, 0, 0, [], [], e)
def idS (l : T) : Int × Int := if (readS l).2 = 0 then (if (readS l).1 < 0 then (0, 3) else if 2147483648 ≤ (readS l).1 then (0, 3) else ((readS l).1, 0)) else (0, (readS l).2)
def msgS (L : List T) : MR :=
 if L.length = 4 ∧ kindN (at_ L 0) ≠ 0 then (if (idS (at_ L 1)).2 = 0 then (if (stS (at_ L 2)).2 = 0 then
  (if kindN (at_ L 0) = 2 then (if (parseC (at_ L 3)).2 = 0 then (2, (idS (at_ L 1)).1, (stS (at_ L 2)).1, [], (parseC (at_ L 3)).1, 0) else badM (parseC (at_ L 3)).2)
   else (if (parseR (at_ L 3)).2 = 0 then (kindN (at_ L 0), (idS (at_ L 1)).1, (stS (at_ L 2)).1, (parseR (at_ L 3)).1, [], 0) else badM (parseR (at_ L 3)).2))
  else badM (stS (at_ L 2)).2) else badM (idS (at_ L 1)).2) else badM 2
theorem msg_read {s : T} (hs : s.length ≤ 500) {k : Nat} (hk : 50000 ≤ k) : reply_ReadMessage.f k (mk s) = some (msgS (spl 32 s)) := by
 have hp : ∀ p ∈ spl 32 s, p.length ≤ 500 := fun p hp2 => Nat.le_trans (spl_short 32 s p hp2) hs
 unfold reply_ReadMessage.f
 rw [sp_eq hs hk]
 simp only [Option.bind_some]
 generalize spl 32 s = L at hp
 obtain ⟨ks, hks, hkl, hyes, hno⟩ := g_kinds L
 have hl1 := at_len hp 1
 have hl2 := at_len hp 2
 have hl3 := at_len hp 3
 rw [hks]
 simp only [Option.bind_some]
 rw [if_pos hkl]
 unfold msgS
 by_cases c : L.length = 4 ∧ kindN (at_ L 0) ≠ 0
 ·
  obtain ⟨i, hi, hik⟩ := hyes c.1 c.2
  have r1 := at_rd (L := L) (i := 1) (by omega)
  have r2 := at_rd (L := L) (i := 2) (by omega)
  have r3 := at_rd (L := L) (i := 3) (by omega)
  rw [show ((1 : Nat) : Int) = 1 from rfl] at r1
  rw [show ((2 : Nat) : Int) = 2 from rfl] at r2
  rw [show ((3 : Nat) : Int) = 3 from rfl] at r3
  rw [hi, if_pos (show (some i).isSome = true from rfl), if_pos c, r1, r2, r3, read_eq (by omega), read_eq (by omega), cparse_eq (by omega) (by omega), rows_parse (s := at_ L 3) (by omega) (by omega)]
  simp only [Option.bind_some, Option.getD_some, hik]
  unfold idS stS
  by_cases c4 : (readS (at_ L 1)).2 = 0
  ·
   rw [if_pos c4, if_pos c4]
   by_cases c5 : (readS (at_ L 1)).1 < 0
   ·
    rw [if_pos c5, if_pos c5]
    rfl
   ·
    rw [if_neg c5, if_neg c5]
    by_cases c6 : 2147483648 ≤ (readS (at_ L 1)).1
    ·
     rw [if_pos c6, if_pos c6]
     rfl
    ·
     rw [if_neg c6, if_neg c6, if_pos rfl]
     by_cases d4 : (readS (at_ L 2)).2 = 0
     ·
      rw [if_pos d4, if_pos d4]
      by_cases d5 : (readS (at_ L 2)).1 < 0
      ·
       rw [if_pos d5, if_pos d5]
       rfl
      ·
       rw [if_neg d5, if_neg d5, if_pos rfl]
       by_cases d6 : kindN (at_ L 0) = 2
       ·
        rw [if_pos d6, if_pos d6, d6]
        split <;> rfl
       ·
        rw [if_neg d6, if_neg d6]
        split <;> rfl
     ·
      rw [if_neg d4, if_neg d4, if_neg d4]
      rfl
  ·
   rw [if_neg c4, if_neg c4, if_neg c4]
   rfl
 ·
  rw [hno c, if_neg (by simp), if_neg c]
  rfl
end Go.Proofs.YteckidchnicjeaaGreatDoor.Pure
end
section
namespace Go.Proofs.YteckidchnicjeaaGreatDoor.Pure
open Go.RowKit Go.Proofs.YteckidchnicjeaaGreatDoor.X Go.Proofs.YteckidchnicjeaaGreatDoorW.PrintWords Go.Proofs.YteckidchnicjeaaGreatDoorW.PrintLast Go.Proofs.YteckidchnicjeaaGreatDoorW.PrintMore Go.Proofs.YteckidchnicjeaaGreatDoor.Aid Go.Proofs.YteckidchnicjeaaGreatDoor.Bytes
def ansT (b : Int) (l : List Rw) : T := [114, 111, 119, 115, 32] ++ Lib.itoa b ++ [32] ++ rowsT l
theorem ans_eq (a : Int) {b : Int} {l : List Rw} (hb : I64 b) (h : GRows l) {k : Nat} (hk : 2200 ≤ k) : reply_Rows.f k a b l = some (mk (ansT b l)) := by
 have h1 := itoa_len hb
 have h2 := rowsT_len h
 have e : Lib.join [[114, 111, 119, 115], Lib.itoa b, rowsT l] [32] = ansT b l := by
  rw [Lib.join_cons, tail_cons, tail_cons]
  simp [ansT, Lib.joinTail]
 have hl : (ansT b l).length ≤ 1400000 := by
  unfold ansT
  simp only [List.length_append, List.length_cons, List.length_nil]
  omega
 have hj : word_Join.f (⟨#[32]⟩ : ByteArray) [(⟨#[114, 111, 119, 115]⟩ : ByteArray), mk (Lib.itoa b), mk (rowsT l)] = some (mk (ansT b l)) := by
  have := join_eq (L := [[114, 111, 119, 115], Lib.itoa b, rowsT l]) (s := [32]) (by simp) (by rw [e]; omega)
  rw [e] at this
  exact this
 unfold reply_Rows.f reply_say.f
 rw [format_eq hb, Option.bind_some, rows_eq h (by omega), Option.bind_some, hj]
 rfl
end Go.Proofs.YteckidchnicjeaaGreatDoor.Pure
end
section
namespace Go.Proofs.YteckidchnicjeaaGreatDoor.Pure
open Go.RowKit Go.Proofs.YteckidchnicjeaaGreatDoor.X Go.Proofs.YteckidchnicjeaaGreatDoorW.PrintWords Go.Proofs.YteckidchnicjeaaGreatDoorW.PrintLast Go.Proofs.YteckidchnicjeaaGreatDoorW.PrintMore Go.Proofs.YteckidchnicjeaaGreatDoor.Aid Go.Proofs.YteckidchnicjeaaGreatDoor.Bytes
theorem rgreat_l0 {l : List Rw} (hl : l.length ≤ 100000) (d : Nat) : ∀ (i k : Nat), i + d = l.length → d < k → ∃ r, r08_Great.l0 k l (i : Int) = some r ∧ (r = false → ∀ x ∈ l.drop i, x.f1.size ≤ 300) := by
 induction d with
 | zero =>
  intro i k hi hk
  obtain ⟨k, rfl⟩ := succ_of hk
  simp only [r08_Great.l0]
  rw [if_neg (by omega), List.drop_of_length_le (by omega)]
  exact ⟨_, rfl, fun _ x hx => absurd hx (by simp)⟩
 | succ d ih =>
  intro i k hi hk
  obtain ⟨k, rfl⟩ := succ_of hk
  have hlt : i < l.length := by omega
  simp only [r08_Great.l0]
  rw [if_pos (by omega), if_pos (by omega), w64s (by omega), rdR hlt]
  obtain ⟨r, hr, h2⟩ := ih (i + 1) k (by omega) (by omega)
  rw [hr]
  by_cases h : (l[i].f1.size : Int) > 300
  ·
   rw [if_pos h]
   exact ⟨_, rfl, fun e => by cases e⟩
  ·
   rw [if_neg h]
   refine ⟨r, rfl, fun e x hx => ?_⟩
   rw [drop_at hlt, List.mem_cons] at hx
   rcases hx with rfl | hx
   ·
    omega
   ·
    exact h2 e x hx
def Fine (l : List Rw) : Prop := l.length ≤ 100 ∧ ∀ x ∈ l, GRow x ∧ x.f1.size ≤ 300
theorem rgreat_eq (l : List Rw) (hq : ∀ x ∈ l, Q60 x) {k : Nat} (hk : 110 ≤ k) : r08_Great.f k l = some true ∨ (r08_Great.f k l = some false ∧ Fine l) := by
 unfold r08_Great.f
 by_cases h : (l.length : Int) > 100
 ·
  rw [if_pos h]
  exact .inl rfl
 ·
  rw [if_neg h]
  obtain ⟨r, h1, h2⟩ := rgreat_l0 (l := l) (by omega) l.length 0 k (by omega) (by omega)
  cases r
  ·
   refine .inr ⟨h1, by omega, fun x hx => ?_⟩
   have h3 := h2 rfl x hx
   have h4 := hq x hx
   exact ⟨⟨wf64 h4.1, by omega, wf64 h4.2.2.1⟩, h3⟩
  ·
   exact .inl h1
theorem cgreat_l0 {l : List Ch} (hl : l.length ≤ 100000) (d : Nat) : ∀ (i k : Nat), i + d = l.length → d < k → ∃ r, r09_Great.l0 k l (i : Int) = some r ∧ (r = false → ∀ x ∈ l.drop i, x.f0.f1.size ≤ 300) := by
 induction d with
 | zero =>
  intro i k hi hk
  obtain ⟨k, rfl⟩ := succ_of hk
  simp only [r09_Great.l0]
  rw [if_neg (by omega), List.drop_of_length_le (by omega)]
  exact ⟨_, rfl, fun _ x hx => absurd hx (by simp)⟩
 | succ d ih =>
  intro i k hi hk
  obtain ⟨k, rfl⟩ := succ_of hk
  have hlt : i < l.length := by omega
  simp only [r09_Great.l0]
  rw [if_pos (by omega), if_pos (by omega), w64s (by omega), rdC hlt]
  obtain ⟨r, hr, h2⟩ := ih (i + 1) k (by omega) (by omega)
  rw [hr]
  by_cases h : (l[i].f0.f1.size : Int) > 300
  ·
   rw [if_pos h]
   exact ⟨_, rfl, fun e => by cases e⟩
  ·
   rw [if_neg h]
   refine ⟨r, rfl, fun e x hx => ?_⟩
   rw [drop_at hlt, List.mem_cons] at hx
   rcases hx with rfl | hx
   ·
    omega
   ·
    exact h2 e x hx
def FineC (l : List Ch) : Prop := l.length ≤ 100 ∧ ∀ x ∈ l, GRow x.f0 ∧ x.f0.f1.size ≤ 300
theorem cgreat_eq (l : List Ch) (hq : ∀ x ∈ l, Q78 x) {k : Nat} (hk : 110 ≤ k) : r09_Great.f k l = some true ∨ (r09_Great.f k l = some false ∧ FineC l) := by
 unfold r09_Great.f
 by_cases h : (l.length : Int) > 100
 ·
  rw [if_pos h]
  exact .inl rfl
 ·
  rw [if_neg h]
  obtain ⟨r, h1, h2⟩ := cgreat_l0 (l := l) (by omega) l.length 0 k (by omega) (by omega)
  cases r
  ·
   refine .inr ⟨h1, by omega, fun x hx => ?_⟩
   have h3 := h2 rfl x hx
   have h4 := (hq x hx).1
   exact ⟨⟨wf64 h4.1, by omega, wf64 h4.2.2.1⟩, h3⟩
  ·
   exact .inl h1
abbrev Ms := S36
theorem much_eq (m : Ms) (h3 : ∀ x ∈ m.f3, Q60 x) (h4 : ∀ x ∈ m.f4, Q78 x) {k : Nat} (hk : 120 ≤ k) : r19_Much.f k [m] = some true ∨ (r19_Much.f k [m] = some false ∧ Fine m.f3 ∧ FineC m.f4) := by
 obtain ⟨k, rfl⟩ : ∃ n, k = n + 2 := ⟨k - 2, by omega⟩
 unfold r19_Much.f
 rw [if_neg (by simp)]
 simp only [r19_Much.l0]
 have e0 : rd_T36 [m] 0 = m := rfl
 rw [if_pos (by simp), if_pos (by omega), e0]
 rcases rgreat_eq m.f3 h3 (k := k + 1) (by omega) with h | ⟨h, f3⟩
 ·
  rw [h]
  simp only [Option.bind_some]
  exact .inl (if_pos trivial)
 ·
  rw [h]
  simp only [Option.bind_some]
  rw [if_neg (by simp)]
  rcases cgreat_eq m.f4 h4 (k := k + 1) (by omega) with h2 | ⟨h2, f4⟩
  ·
   rw [h2]
   simp only [Option.bind_some]
   exact .inl (if_pos trivial)
  ·
   rw [h2]
   simp only [Option.bind_some]
   rw [if_neg (by simp), if_neg (by rw [w64 (a := 0 + 1) (by omega) (by omega)]; simp)]
   exact .inr ⟨rfl, f3, f4⟩
end Go.Proofs.YteckidchnicjeaaGreatDoor.Pure
end
section
namespace Go.Proofs.YteckidchnicjeaaGreatDoor.Pure
open Go.RowKit Go.Proofs.YteckidchnicjeaaGreatDoor.X Go.Proofs.YteckidchnicjeaaGreatDoorW.PrintWords Go.Proofs.YteckidchnicjeaaGreatDoorW.PrintLast Go.Proofs.YteckidchnicjeaaGreatDoorW.PrintMore Go.Proofs.YteckidchnicjeaaGreatDoor.Aid Go.Proofs.YteckidchnicjeaaGreatDoor.Bytes
set_option linter.unusedVariables false
theorem chsT_len {l : List Ch} (h : GCh l) : (chsT l).length ≤ 2000000 := by
 unfold chsT
 split
 ·
  decide
 ·
  have hj := join_len [59] (l.map chT)
  have h1 := chs_tot h
  have := h.1
  rw [List.length_map, List.length_singleton] at hj
  omega
def kindT (a : Int) : T := if a = 1 then [105, 109, 97, 103, 101] else if a = 2 then [100, 105, 102, 102] else [114, 101, 115, 121, 110, 99]
def msgT (m : Ms) : T := if m.f0 < 1 ∨ m.f0 > 3 then [] else kindT m.f0 ++ [32] ++ (Lib.itoa m.f1 ++ [32] ++ (Lib.itoa m.f2 ++ [32] ++ (if m.f0 = 2 then chsT m.f4 else rowsT m.f3)))
theorem join4 (a b c d : T) : Lib.join [a, b, c, d] [32] = a ++ [32] ++ (b ++ [32] ++ (c ++ [32] ++ d)) := by
 rw [Lib.join_cons, tail_cons, tail_cons, tail_cons]
 simp [Lib.joinTail]
theorem kindT_len (a : Int) : (kindT a).length ≤ 6 := by
 unfold kindT
 split
 ·
  decide
 ·
  split <;> decide
theorem kinds_at {a : Int} (h : 1 ≤ a ∧ a ≤ 3) : ∃ ks, reply_kinds.f = some ks ∧ ks.length = 3 ∧ rdOf ByteArray.empty ks (a - 1) = mk (kindT a) := by
 refine ⟨_, rfl, rfl, ?_⟩
 have h3 : a = 1 ∨ a = 2 ∨ a = 3 := by omega
 rcases h3 with rfl | rfl | rfl <;> rfl
theorem j1_eq {m : Ms} (h : 1 ≤ m.f0 ∧ m.f0 ≤ 3) (h1 : I64 m.f1) (h2 : I64 m.f2) {x : T} (hx : x.length ≤ 2000000) {k : Nat} (hk : 0 < k) : reply_Message.j1 k (mk x) m.f0 m.f1 m.f2 m.f3 m.f4 = some (mk (kindT m.f0 ++ [32] ++ (Lib.itoa m.f1 ++ [32] ++ (Lib.itoa m.f2 ++ [32] ++ x)))) := by
 obtain ⟨k, rfl⟩ := succ_of hk
 obtain ⟨ks, hks, hl, hr⟩ := kinds_at h
 have l1 := itoa_len h1
 have l2 := itoa_len h2
 have l0 := kindT_len m.f0
 simp only [reply_Message.j1]
 rw [hks]
 simp only [Option.bind_some]
 rw [w64 (by omega) (by omega), if_pos (by omega), if_pos (by omega), format_eq h1, format_eq h2]
 simp only [Option.bind_some]
 rw [hr]
 have e : ([mk (kindT m.f0), mk (Lib.itoa m.f1), mk (Lib.itoa m.f2), mk x] : List ByteArray) = ([kindT m.f0, Lib.itoa m.f1, Lib.itoa m.f2, x] : List T).map mk := rfl
 rw [e]
 unfold reply_say.f
 rw [show (⟨#[32]⟩ : ByteArray) = mk [32] from rfl, join_eq (by simp) (by rw [join4]; simp only [List.length_append, List.length_singleton]; omega), join4]
 rfl
theorem msg_eq {m : Ms} (h1 : I64 m.f1) (h2 : I64 m.f2) (h3 : GRows m.f3) (h4 : GCh m.f4) {k : Nat} (hk : 5000 ≤ k) : reply_Message.f k m.f0 m.f1 m.f2 m.f3 m.f4 = some (mk (msgT m)) := by
 obtain ⟨k, rfl⟩ : ∃ n, k = n + 1 := ⟨k - 1, by omega⟩
 unfold reply_Message.f msgT
 by_cases c : m.f0 < 1
 ·
  rw [if_pos c, if_pos (.inl c)]
  simp only [reply_Message.j0]
  rfl
 ·
  rw [if_neg c]
  by_cases c2 : m.f0 > 3
  ·
   rw [decide_eq_true c2, if_pos (.inr c2)]
   simp only [reply_Message.j0]
   rfl
  ·
   rw [decide_eq_false c2, if_neg (by omega)]
   simp only [reply_Message.j0]
   rw [if_neg (by simp), rows_eq h3 (by omega)]
   simp only [Option.bind_some]
   by_cases c3 : m.f0 = 2
   ·
    rw [if_pos c3, if_pos c3, ctext_eq h4 (by omega)]
    simp only [Option.bind_some]
    exact j1_eq (by omega) h1 h2 (chsT_len h4) (by omega)
   ·
    rw [if_neg c3, if_neg c3]
    exact j1_eq (by omega) h1 h2 (Nat.le_trans (rowsT_len h3) (by omega)) (by omega)
theorem fine_g {l : List Rw} (h : Fine l) : GRows l := ⟨by have := h.1; omega, fun x hx => (h.2 x hx).1⟩
theorem fine_c {l : List Ch} (h : FineC l) : GCh l := ⟨by have := h.1; omega, fun x hx => (h.2 x hx).1⟩
theorem stored_text {n : Int} (h : I64 n) : reply_Stored.f n = some (mk ([111, 107, 32] ++ Lib.itoa n)) := by
 have hl := itoa_len h
 unfold reply_Stored.f
 rw [format_eq h]
 simp only [Option.bind_some]
 have e : ([(⟨#[111, 107]⟩ : ByteArray), mk (Lib.itoa n)] : List ByteArray) = ([[111, 107], Lib.itoa n] : List T).map mk := rfl
 rw [e]
 unfold reply_say.f
 rw [show (⟨#[32]⟩ : ByteArray) = mk [32] from rfl, join_eq (by simp) (by rw [join2]; simp only [List.length_append, List.length_cons, List.length_nil]; omega), join2]
 rfl
end Go.Proofs.YteckidchnicjeaaGreatDoor.Pure
end
section
namespace Go.Proofs.YteckidchnicjeaaGreatDoor.Pure
open Go.RowKit Go.Proofs.YteckidchnicjeaaGreatDoor.X Go.Proofs.YteckidchnicjeaaGreatDoorW.PrintWords Go.Proofs.YteckidchnicjeaaGreatDoorW.PrintLast Go.Proofs.YteckidchnicjeaaGreatDoorW.PrintMore Go.Proofs.YteckidchnicjeaaGreatDoor.Aid Go.Proofs.YteckidchnicjeaaGreatDoor.Bytes Go.Proofs.YteckidchnicjeaaGreatDoor.Decs
set_option linter.unusedVariables false
def asC (x : Rw) : Ch := ⟨x, false⟩
theorem asC_t (x : Rw) : chT (asC x) = rowT x := by
 unfold chT asC
 rw [if_neg (by simp)]
theorem fitR {x : Rw} (h : FitC (asC x)) : oneR (rowT x) = (x, 0) := by
 obtain ⟨hg, hz, hb, hgr⟩ := h
 change GRow x at hg
 change grp (bl x.f1) = 0 at hgr
 obtain ⟨a1, a2, a3⟩ := itoa_no x.f0
 obtain ⟨b1, b2⟩ := grp_no hgr
 obtain ⟨c1, c2⟩ := txt_no x.f2.f0 x.f2.f1
 have hm : mk (bl x.f1) = x.f1 := mk_eta _
 have e : rowT x = Lib.itoa x.f0 ++ 124 :: (bl x.f1 ++ 124 :: txt x.f2.f0 x.f2.f1) := by
  unfold rowT
  simp
 have hs : spl 124 (rowT x) = [Lib.itoa x.f0, bl x.f1, txt x.f2.f0 x.f2.f1] := by rw [e, spl_app 124 _ _ a2, spl_app 124 _ _ b2, spl_no 124 _ c2]
 have hr := read_itoa hg.1
 have hp := parse_txt hg.2.2 x.f2.f1
 rw [oneR_3 hs]
 simp only [hr, hp, hgr, hm, if_true]
theorem rows_fit : ∀ (c acc : List Rw), (∀ x ∈ c, FitC (asC x)) → rowsP (c.map rowT) acc = if riseB (acc ++ c) = true then (acc ++ c, 0) else ([], 9)
 | [], acc, _ => by
  rw [List.map_nil, rowsP, List.append_nil]
 | x :: c, acc, h => by
  rw [List.map_cons, rowsP, fitR (h x List.mem_cons_self), if_pos rfl, rows_fit c _ (fun y hy => h y (List.mem_cons_of_mem _ hy)), List.append_assoc]
  rfl
theorem rowsT_c (l : List Rw) : rowsT l = chsT (l.map asC) := by
 unfold rowsT chsT
 rw [List.map_map]
 have : (chT ∘ asC) = rowT := funext asC_t
 rw [this]
 cases l with
 | nil => rfl
 | cons x l => rw [if_neg (by simp), if_neg (by simp)]
theorem chs_short {l : List Ch} (hc : ∀ x ∈ l, FitC x) (hl : l.length ≤ 100) : (chsT l).length ≤ 70000 := by
 unfold chsT
 split
 ·
  decide
 ·
  cases l with
  | nil => simp [Lib.join]
  | cons x c =>
   have h1 := fit_len (hc x List.mem_cons_self)
   have h2 := flat_len (n := 600) (L := c.map chT) (fun p hp => by
    obtain ⟨y, hy, rfl⟩ := List.mem_map.1 hp
    exact fit_len (hc y (List.mem_cons_of_mem _ hy)))
   rw [List.map_cons, Lib.join_cons, List.length_append]
   rw [List.length_map] at h2
   rw [List.length_cons] at hl
   omega
theorem rows_short {l : List Rw} (hc : ∀ x ∈ l, FitC (asC x)) (hl : l.length ≤ 100) : (rowsT l).length ≤ 70000 := by
 rw [rowsT_c]
 refine chs_short (fun x hx => ?_) (by rw [List.length_map]; exact hl)
 obtain ⟨y, hy, rfl⟩ := List.mem_map.1 hx
 exact hc y hy
theorem asC_len {l : List Rw} (hc : ∀ x ∈ l, FitC (asC x)) (hl : l.length ≤ 100) : (rowsT l).length ≤ 90000 := Nat.le_trans (rows_short hc hl) (by decide)
theorem rows_big {c : List Rw} (hc : ∀ x ∈ c, FitC (asC x)) (hl : c.length ≤ 100) (hr : riseB c = true) {k : Nat} (hk : 100000 ≤ k) : row_Parse.f k (mk (rowsT c)) = some (c, 0) := by
 have hlen := asC_len hc hl
 unfold row_Parse.f
 rw [mk_toList]
 by_cases h : c = []
 ·
  rw [h]
  rfl
 ·
  have e : rowsT c = Lib.join (c.map rowT) [59] := by unfold rowsT; rw [if_neg h]
  have hno : ∀ x ∈ c, (59 : UInt8) ∉ rowT x ∧ (124 : UInt8) ∈ rowT x := fun x hx => by
   have := fit_no (hc x hx)
   rwa [asC_t] at this
  have hs : spl 59 (rowsT c) = c.map rowT := by
   rw [e]
   refine spl_join 59 _ (by simpa using h) fun t ht => ?_
   obtain ⟨x, hx, rfl⟩ := List.mem_map.1 ht
   exact (hno x hx).1
  have hmem : ∀ p ∈ c.map rowT, p.length ≤ 600 := fun t ht => by
   obtain ⟨x, hx, rfl⟩ := List.mem_map.1 ht
   have := fit_len (hc x hx)
   rwa [asC_t] at this
  have h45 : ¬ rowsT c = [45] := by
   intro h2
   rw [h2] at hs
   cases c with
   | nil => exact h rfl
   | cons x c =>
    have hx : rowT x = [45] := by
     have : spl 59 [45] = [[45]] := by decide
     rw [this, List.map_cons] at hs
     injection hs with hs _
     exact hs.symm
    have := (hno x List.mem_cons_self).2
    rw [hx] at this
    exact absurd this (by decide)
  have h0 := lines_l0 (L := c.map rowT) hmem (by rw [List.length_map]; omega) (c.map rowT).length 0 k [] (by omega) (by rw [List.length_map]; omega) (by simp)
  rw [if_neg h45, show (59 : Int) = ((59 : UInt8).toNat : Int) from rfl, split_big 59 hlen k (by omega), Option.bind_some, hs, List.length_map]
  have h1 : rowsP (c.map rowT) [] = (c, 0) := by rw [rows_fit c [] hc, List.nil_append, if_pos hr]
  rw [show ((0 : Nat) : Int) = 0 from rfl, List.drop_zero, h1] at h0
  exact h0
theorem rows_back : ∀ (L : List T) (acc : List Rw), (∀ p ∈ L, p.length ≤ 600) → (rowsP L acc).2 = 0 → (rowsP L acc).1.map rowT = acc.map rowT ++ L ∧ (rowsP L acc).1.length = acc.length + L.length ∧ ((∀ c ∈ acc, GRow c) → ∀ c ∈ (rowsP L acc).1, GRow c)
 | [], acc, _, h => by
  rw [rowsP] at h ⊢
  by_cases hr : riseB acc = true
  ·
   rw [if_pos hr]
   exact ⟨by simp, by simp, fun g => g⟩
  ·
   rw [if_neg hr] at h
   exact absurd h (by decide)
 | t :: L, acc, hL, h => by
  rw [rowsP] at h ⊢
  by_cases ho : (oneR t).2 = 0
  ·
   rw [if_pos ho] at h ⊢
   obtain ⟨e, g⟩ := oneR_back ho (hL t List.mem_cons_self)
   obtain ⟨e2, n2, g2⟩ := rows_back L (acc ++ [(oneR t).1]) (fun p hp => hL p (List.mem_cons_of_mem _ hp)) h
   refine ⟨by rw [e2, List.map_append, List.map_cons, List.map_nil, e]; simp, by rw [n2, List.length_append, List.length_singleton, List.length_cons]; omega, fun ga => g2 fun c hc => ?_⟩
   rcases List.mem_append.1 hc with hc | hc
   ·
    exact ga c hc
   ·
    rw [List.mem_singleton.1 hc]
    exact g
  ·
   rw [if_neg ho] at h
   exact absurd h ho
theorem rows_text {s : T} (hs : s.length ≤ 600) (h : (parseR s).2 = 0) : rowsT (parseR s).1 = s ∧ GRows (parseR s).1 := by
 unfold parseR at h ⊢
 by_cases h0 : s = [45]
 ·
  rw [if_pos h0]
  exact ⟨by rw [h0]; rfl, by simp, fun c hc => by cases hc⟩
 ·
  rw [if_neg h0] at h ⊢
  obtain ⟨e, n, g⟩ := rows_back (spl 59 s) [] (fun p hp => by have := spl_short 59 s p hp; omega) h
  have := spl_len 59 s
  rw [List.length_nil] at n
  refine ⟨?_, by omega, g (fun c hc => by cases hc)⟩
  rw [List.map_nil, List.nil_append] at e
  unfold rowsT
  rw [if_neg (fun e2 => by rw [e2] at e; exact spl_ne 59 s e.symm), e, join_spl]
theorem okV_32 {c : UInt8} (h : okV c = true) : c ≠ 32 := by
 unfold okV okN okS okD at h
 simp only [Bool.or_eq_true, Bool.and_eq_true, decide_eq_true_eq] at h
 rintro rfl
 have : (32 : UInt8).toNat = 32 := rfl
 omega
theorem grp_32 {b : T} (h : grp b = 0) : (32 : UInt8) ∉ b := by
 intro hc
 rcases grp_chars h _ hc with h | h | h
 ·
  exact okV_32 h rfl
 ·
  exact absurd h (by decide)
 ·
  exact absurd h (by decide)
theorem itoa_32 (n : Int) : (32 : UInt8) ∉ Lib.itoa n := by
 intro h
 rcases itoa_chars _ h with h | h
 ·
  revert h
  unfold Dig
  decide
 ·
  exact absurd h (by decide)
theorem txt_32 (n : Int) (o : Bool) : (32 : UInt8) ∉ txt n o := by
 unfold txt
 have h1 := itoa_32 n
 cases o with
 | false => exact h1
 | true =>
  rw [if_pos rfl, List.mem_append]
  rintro (h | h)
  ·
   exact h1 h
  ·
   exact absurd (List.mem_singleton.1 h) (by decide)
theorem fit_32 {x : Ch} (h : FitC x) : (32 : UInt8) ∉ chT x := by
 have a1 := itoa_32 x.f0.f0
 have b1 := grp_32 h.2.2.2
 have c1 := txt_32 x.f0.f2.f0 x.f0.f2.f1
 unfold chT rowT
 split
 ·
  simp only [List.mem_append, List.mem_singleton]
  rintro (h | (h | h) | h)
  ·
   exact absurd h (by decide)
  ·
   exact a1 h
  ·
   exact absurd h (by decide)
  ·
   exact b1 h
 ·
  simp only [List.mem_append, List.mem_singleton]
  rintro ((((h | h) | h) | h) | h)
  ·
   exact a1 h
  ·
   exact absurd h (by decide)
  ·
   exact b1 h
  ·
   exact absurd h (by decide)
  ·
   exact c1 h
theorem chsT_32 {l : List Ch} (h : ∀ x ∈ l, FitC x) : (32 : UInt8) ∉ chsT l := by
 unfold chsT
 split
 ·
  decide
 ·
  intro hc
  rcases mem_join hc with ⟨t, ht, hct⟩ | hct
  ·
   obtain ⟨x, hx, rfl⟩ := List.mem_map.1 ht
   exact fit_32 (h x hx) hct
  ·
   exact absurd (List.mem_singleton.1 hct) (by decide)
theorem rowsT_32 {l : List Rw} (h : ∀ x ∈ l, FitC (asC x)) : (32 : UInt8) ∉ rowsT l := by
 rw [rowsT_c]
 refine chsT_32 fun x hx => ?_
 obtain ⟨y, hy, rfl⟩ := List.mem_map.1 hx
 exact h y hy
end Go.Proofs.YteckidchnicjeaaGreatDoor.Pure
end
section
namespace Go.Proofs.YteckidchnicjeaaGreatDoor.Pure
open Go.RowKit Go.Proofs.YteckidchnicjeaaGreatDoor.X Go.Proofs.YteckidchnicjeaaGreatDoorW.PrintWords Go.Proofs.YteckidchnicjeaaGreatDoorW.PrintLast Go.Proofs.YteckidchnicjeaaGreatDoorW.PrintMore Go.Proofs.YteckidchnicjeaaGreatDoor.Aid Go.Proofs.YteckidchnicjeaaGreatDoor.Bytes Go.Proofs.YteckidchnicjeaaGreatDoor.Decs
set_option linter.unusedVariables false
theorem ans_spl {b : Int} {l : List Rw} (h : ∀ x ∈ l, FitC (asC x)) : spl 32 (ansT b l) = [rowsW, Lib.itoa b, rowsT l] := by
 have e : ansT b l = rowsW ++ 32 :: (Lib.itoa b ++ 32 :: rowsT l) := by
  unfold ansT rowsW
  simp
 rw [e, spl_app 32 _ _ (by decide), spl_app 32 _ _ (itoa_32 b), spl_no 32 _ (rowsT_32 h)]
theorem kindT_32 (a : Int) : (32 : UInt8) ∉ kindT a := by
 unfold kindT
 split
 ·
  decide
 ·
  split <;> decide
def lastT (m : Ms) : T := if m.f0 = 2 then chsT m.f4 else rowsT m.f3
theorem msg_spl {m : Ms} (hk : 1 ≤ m.f0 ∧ m.f0 ≤ 3) (h3 : ∀ x ∈ m.f3, FitC (asC x)) (h4 : ∀ x ∈ m.f4, FitC x) : spl 32 (msgT m) = [kindT m.f0, Lib.itoa m.f1, Lib.itoa m.f2, lastT m] := by
 have e : msgT m = kindT m.f0 ++ 32 :: (Lib.itoa m.f1 ++ 32 :: (Lib.itoa m.f2 ++ 32 :: lastT m)) := by
  unfold msgT lastT
  rw [if_neg (by omega)]
  simp
 have hl : (32 : UInt8) ∉ lastT m := by
  unfold lastT
  split
  ·
   exact chsT_32 h4
  ·
   exact rowsT_32 h3
 rw [e, spl_app 32 _ _ (kindT_32 _), spl_app 32 _ _ (itoa_32 _), spl_app 32 _ _ (itoa_32 _), spl_no 32 _ hl]
theorem split_32 {l : T} (hl : l.length ≤ 90000) {k : Nat} (hk : 100000 ≤ k) : word_Split.f k (mk l) 32 = some ((spl 32 l).map mk) := by
 have := split_big 32 hl k (by omega)
 rwa [show ((32 : UInt8).toNat : Int) = 32 from rfl] at this
theorem wr_rows {b : Int} {l : List Rw} (hb : I64 b) (h0 : 0 ≤ b) (hf : ∀ x ∈ l, FitC (asC x)) (hl : l.length ≤ 100) (hr : riseB l = true) {k : Nat} (hk : 110000 ≤ k) : reply_ReadRows.f k (mk (ansT b l)) = some (0, b, l, 0) := by
 have h1 := itoa_len hb
 have h2 := asC_len hf hl
 have hlen : (ansT b l).length ≤ 90000 := by
  unfold ansT
  have h3 : (rowsT l).length ≤ 80000 := by
   have := rows_short hf hl
   omega
  simp only [List.length_append, List.length_cons, List.length_nil]
  omega
 have hg := g_one [rowsW, Lib.itoa b, rowsT l] 2 (by omega) rowsW
 rw [show ((2 : Nat) : Int) = 2 from rfl] at hg
 unfold reply_ReadRows.f
 rw [split_32 hlen (by omega)]
 simp only [Option.bind_some]
 rw [ans_spl hf, show rows_ = mk rowsW from rfl, hg, if_pos (decide_eq_true (show ([rowsW, Lib.itoa b, rowsT l] : List T).length = 2 + 1 ∧ ([rowsW, Lib.itoa b, rowsT l] : List T).getD 0 [] = rowsW from ⟨rfl, rfl⟩))]
 rw [show rdOf ByteArray.empty (([rowsW, Lib.itoa b, rowsT l] : List T).map mk) 1 = mk (Lib.itoa b) from rfl, show rdOf ByteArray.empty (([rowsW, Lib.itoa b, rowsT l] : List T).map mk) 2 = mk (rowsT l) from rfl, read_eq (by omega), read_itoa hb, rows_big hf hl hr (by omega)]
 simp only [Option.bind_some]
 rw [if_pos trivial, if_neg (by omega), if_pos trivial]
theorem kindN_T {a : Int} (h : 1 ≤ a ∧ a ≤ 3) : kindN (kindT a) = a := by
 have h3 : a = 1 ∨ a = 2 ∨ a = 3 := by omega
 rcases h3 with rfl | rfl | rfl <;> rfl
theorem wr_msg {m : Ms} (hk0 : 1 ≤ m.f0 ∧ m.f0 ≤ 3) (h1 : I64 m.f1) (p1 : 0 ≤ m.f1) (q1 : m.f1 < 2147483648) (h2 : I64 m.f2) (p2 : 0 ≤ m.f2) (h3 : ∀ x ∈ m.f3, FitC (asC x)) (l3 : m.f3.length ≤ 100) (r3 : riseB m.f3 = true)
 (h4 : ∀ x ∈ m.f4, FitC x) (l4 : m.f4.length ≤ 100) (r4 : rightC m.f4 = true) (hz : if m.f0 = 2 then m.f3 = [] else m.f4 = []) {k : Nat} (hk : 110000 ≤ k) : reply_ReadMessage.f k (mk (msgT m)) = some (m.f0, m.f1, m.f2, m.f3, m.f4, 0) := by
 have i1 := itoa_len h1
 have i2 := itoa_len h2
 have i0 := kindT_len m.f0
 have z3 := rows_short h3 l3
 have z4 := chs_short h4 l4
 have hlast : (lastT m).length ≤ 80000 := by
  unfold lastT
  split <;> omega
 have hlen : (msgT m).length ≤ 90000 := by
  have e : msgT m = kindT m.f0 ++ 32 :: (Lib.itoa m.f1 ++ 32 :: (Lib.itoa m.f2 ++ 32 :: lastT m)) := by
   unfold msgT lastT
   rw [if_neg (by omega)]
   simp
  rw [e]
  simp only [List.length_append, List.length_cons]
  omega
 obtain ⟨ks, hks, hkl, hyes, hno⟩ := g_kinds [kindT m.f0, Lib.itoa m.f1, Lib.itoa m.f2, lastT m]
 have ka : kindN (at_ [kindT m.f0, Lib.itoa m.f1, Lib.itoa m.f2, lastT m] 0) = m.f0 := kindN_T hk0
 obtain ⟨i, hi, hik⟩ := hyes rfl (by rw [ka]; omega)
 rw [ka] at hik
 unfold reply_ReadMessage.f
 rw [split_32 hlen (by omega), msg_spl hk0 h3 h4]
 simp only [Option.bind_some]
 rw [hks]
 simp only [Option.bind_some]
 rw [if_pos hkl, hi, if_pos (show (some i).isSome = true from rfl)]
 generalize hL : ([kindT m.f0, Lib.itoa m.f1, Lib.itoa m.f2, lastT m] : List T) = L
 have e1 : rdOf ByteArray.empty (L.map mk) 1 = mk (Lib.itoa m.f1) := by rw [← hL]; rfl
 have e2 : rdOf ByteArray.empty (L.map mk) 2 = mk (Lib.itoa m.f2) := by rw [← hL]; rfl
 have e3 : rdOf ByteArray.empty (L.map mk) 3 = mk (lastT m) := by rw [← hL]; rfl
 rw [e1, e2, e3, read_eq (by omega), read_itoa h1, read_eq (by omega), read_itoa h2]
 simp only [Option.bind_some, Option.getD_some, hik]
 rw [if_pos trivial, if_neg (by omega), if_neg (by omega), if_pos trivial, if_neg (by omega)]
 by_cases c : m.f0 = 2
 ·
  rw [if_pos c] at hz
  rw [if_pos c]
  have : lastT m = chsT m.f4 := by unfold lastT; rw [if_pos c]
  rw [this, parse_fit h4 l4 r4 (by omega), Option.bind_some]
  dsimp only
  rw [if_pos rfl, hz]
 ·
  rw [if_neg c] at hz
  rw [if_neg c]
  have : lastT m = rowsT m.f3 := by unfold lastT; rw [if_neg c]
  rw [this, rows_big h3 l3 r3 (by omega), Option.bind_some]
  dsimp only
  rw [if_pos rfl, hz]
theorem st_back {l : T} (h : (stS l).2 = 0) : I64 (stS l).1 ∧ Lib.itoa (stS l).1 = l := by
 unfold stS at h ⊢
 by_cases c : (readS l).2 = 0
 ·
  rw [if_pos c] at h ⊢
  by_cases c2 : (readS l).1 < 0
  ·
   rw [if_pos c2] at h
   exact absurd h (by decide)
  ·
   rw [if_neg c2]
   exact read_back c
 ·
  rw [if_neg c] at h
  exact absurd h c
theorem id_back {l : T} (h : (idS l).2 = 0) : I64 (idS l).1 ∧ Lib.itoa (idS l).1 = l := by
 unfold idS at h ⊢
 by_cases c : (readS l).2 = 0
 ·
  rw [if_pos c] at h ⊢
  by_cases c2 : (readS l).1 < 0
  ·
   rw [if_pos c2] at h
   exact absurd h (by decide)
  ·
   rw [if_neg c2] at h ⊢
   by_cases c3 : 2147483648 ≤ (readS l).1
   ·
    rw [if_pos c3] at h
    exact absurd h (by decide)
   ·
    rw [if_neg c3]
    exact read_back c
 ·
  rw [if_neg c] at h
  exact absurd h c
theorem joined (s : T) : Lib.join (spl 32 s) [32] = s := join_spl 32 s
theorem stored_back {s : T} (h : (storedS (spl 32 s)).2 = 0) : I64 (storedS (spl 32 s)).1 ∧ [111, 107, 32] ++ Lib.itoa (storedS (spl 32 s)).1 = s := by
 have hj := joined s
 generalize spl 32 s = L at h hj
 unfold storedS at h ⊢
 by_cases c : L.length = 2 ∧ at_ L 0 = okW
 ·
  rw [if_pos c] at h ⊢
  obtain ⟨i, e⟩ := st_back h
  refine ⟨i, ?_⟩
  rw [e]
  match L, c with
  | [x, y], ⟨_, c⟩ =>
   have cx : x = okW := c
   rw [← hj, cx]
   show [111, 107, 32] ++ y = _
   rw [Lib.join_cons, tail_cons]
   simp [Lib.joinTail, okW]
 ·
  rw [if_neg c] at h
  exact absurd h (by decide)
theorem rows_red {s : T} (hs : s.length ≤ 500) (h : (rowsS (spl 32 s)).2.2.2 = 0) : I64 (rowsS (spl 32 s)).2.1 ∧ GRows (rowsS (spl 32 s)).2.2.1 ∧ ansT (rowsS (spl 32 s)).2.1 (rowsS (spl 32 s)).2.2.1 = s := by
 have hj := joined s
 have hp : ∀ p ∈ spl 32 s, p.length ≤ 500 := fun p hp2 => Nat.le_trans (spl_short 32 s p hp2) hs
 generalize spl 32 s = L at h hj hp
 have hl2 := at_len hp 2
 unfold rowsS at h ⊢
 by_cases c : L.length = 3 ∧ at_ L 0 = rowsW
 ·
  rw [if_pos c] at h ⊢
  by_cases c1 : (stS (at_ L 1)).2 = 0
  ·
   rw [if_pos c1] at h ⊢
   by_cases c2 : (parseR (at_ L 2)).2 = 0
   ·
    rw [if_pos c2]
    obtain ⟨i, e⟩ := st_back c1
    obtain ⟨e2, g⟩ := rows_text (s := at_ L 2) (by omega) c2
    refine ⟨i, g, ?_⟩
    unfold ansT
    dsimp only
    rw [e, e2]
    match L, c with
    | [x, y, z], ⟨_, c⟩ =>
     have cx : x = rowsW := c
     rw [← hj, cx]
     show [114, 111, 119, 115, 32] ++ y ++ [32] ++ z = _
     rw [Lib.join_cons, tail_cons, tail_cons]
     simp [Lib.joinTail, rowsW]
   ·
    rw [if_neg c2] at h
    exact absurd h c2
  ·
   rw [if_neg c1] at h
   exact absurd h c1
 ·
  rw [if_neg c] at h
  exact absurd h (by decide)
theorem kindT_N {x : T} (h : kindN x ≠ 0) : kindT (kindN x) = x ∧ 1 ≤ kindN x ∧ kindN x ≤ 3 := by
 unfold kindN at h ⊢
 by_cases c1 : x = imageW
 ·
  rw [if_pos c1, c1]
  exact ⟨rfl, by decide, by decide⟩
 ·
  rw [if_neg c1] at h ⊢
  by_cases c2 : x = diffW
  ·
   rw [if_pos c2, c2]
   exact ⟨rfl, by decide, by decide⟩
  ·
   rw [if_neg c2] at h ⊢
   by_cases c3 : x = resyncW
   ·
    rw [if_pos c3, c3]
    exact ⟨rfl, by decide, by decide⟩
   ·
    rw [if_neg c3] at h
    exact absurd rfl h
def asM (r : MR) : Ms := ⟨r.1, r.2.1, r.2.2.1, r.2.2.2.1, r.2.2.2.2.1⟩
theorem msg_join {a : Int} (ha : 1 ≤ a ∧ a ≤ 3) {b c : Int} {r : List Rw} {d : List Ch} {L : List T} {y z t : T} (hL : L = [kindT a, y, z, t]) (ey : Lib.itoa b = y) (ez : Lib.itoa c = z) (et : (if a = 2 then chsT d else rowsT r) = t) : msgT ⟨a, b, c, r, d⟩ = Lib.join L [32] := by
 unfold msgT
 rw [if_neg (by dsimp only; omega), hL, join4]
 dsimp only
 rw [ey, ez, et]
theorem msg_red {s : T} (hs : s.length ≤ 500) (h : (msgS (spl 32 s)).2.2.2.2.2 = 0) : I64 (asM (msgS (spl 32 s))).f1 ∧ I64 (asM (msgS (spl 32 s))).f2 ∧ GRows (asM (msgS (spl 32 s))).f3 ∧ GCh (asM (msgS (spl 32 s))).f4 ∧ msgT (asM (msgS (spl 32 s))) = s := by
 have hj := joined s
 have hp : ∀ p ∈ spl 32 s, p.length ≤ 500 := fun p hp2 => Nat.le_trans (spl_short 32 s p hp2) hs
 generalize spl 32 s = L at h hj hp
 have hl3 := at_len hp 3
 have g0 : GRows [] := ⟨by simp, fun _ h => by cases h⟩
 have c0 : GCh [] := ⟨by simp, fun _ h => by cases h⟩
 unfold msgS at h ⊢
 by_cases c : L.length = 4 ∧ kindN (at_ L 0) ≠ 0
 ·
  rw [if_pos c] at h ⊢
  obtain ⟨ek, hk⟩ := kindT_N c.2
  have hL : L = [at_ L 0, at_ L 1, at_ L 2, at_ L 3] := by
   match L, c.1 with
   | [x, y, z, t], _ => rfl
  by_cases c1 : (idS (at_ L 1)).2 = 0
  ·
   rw [if_pos c1] at h ⊢
   obtain ⟨i1, e1⟩ := id_back c1
   by_cases c2 : (stS (at_ L 2)).2 = 0
   ·
    rw [if_pos c2] at h ⊢
    obtain ⟨i2, e2⟩ := st_back c2
    by_cases c3 : kindN (at_ L 0) = 2
    ·
     rw [if_pos c3] at h ⊢
     by_cases c4 : (parseC (at_ L 3)).2 = 0
     ·
      rw [if_pos c4]
      obtain ⟨e3, g⟩ := parse_text (s := at_ L 3) (by omega) c4
      refine ⟨i1, i2, g0, g, ?_⟩
      rw [c3] at ek
      show msgT ⟨2, (idS (at_ L 1)).1, (stS (at_ L 2)).1, [], (parseC (at_ L 3)).1⟩ = s
      rw [msg_join (L := L) (by omega) (by rw [ek]; exact hL) e1 e2 (by rw [if_pos rfl]; exact e3), hj]
     ·
      rw [if_neg c4] at h
      exact absurd h c4
    ·
     rw [if_neg c3] at h ⊢
     by_cases c4 : (parseR (at_ L 3)).2 = 0
     ·
      rw [if_pos c4]
      obtain ⟨e3, g⟩ := rows_text (s := at_ L 3) (by omega) c4
      refine ⟨i1, i2, g, c0, ?_⟩
      show msgT ⟨kindN (at_ L 0), (idS (at_ L 1)).1, (stS (at_ L 2)).1, (parseR (at_ L 3)).1, []⟩ = s
      rw [msg_join (L := L) hk (by rw [ek]; exact hL) e1 e2 (by rw [if_neg c3]; exact e3), hj]
     ·
      rw [if_neg c4] at h
      exact absurd h c4
   ·
    rw [if_neg c2] at h
    exact absurd h c2
  ·
   rw [if_neg c1] at h
   exact absurd h c1
 ·
  rw [if_neg c] at h
  exact absurd h (by decide)
end Go.Proofs.YteckidchnicjeaaGreatDoor.Pure
end
section
namespace Go.Proofs.YteckidchnicjeaaGreatDoor.Pure
open Go.RowKit Go.Proofs.YteckidchnicjeaaGreatDoor.X Go.Proofs.YteckidchnicjeaaGreatDoorW.PrintWords Go.Proofs.YteckidchnicjeaaGreatDoorW.PrintLast Go.Proofs.YteckidchnicjeaaGreatDoorW.PrintMore Go.Proofs.YteckidchnicjeaaGreatDoor.Aid Go.Proofs.YteckidchnicjeaaGreatDoor.Bytes
theorem rcright_l0 {l : List Ch} (hs : ShR (l.map (·.f0))) (hl : l.length ≤ 1000) (d : Nat) : ∀ (i k : Nat), i + d = l.length → d + 36000 < k → (∀ c ∈ l.take i, bare c = true) →
 r09_Right.l0 k l ((l.take i).map (·.f0)) (i : Int) = some (rightC l) := by
 induction d with
 | zero =>
  intro i k hi hk hb
  obtain ⟨k, rfl⟩ := succ_of hk
  have ht : l.take i = l := List.take_of_length_le (by omega)
  rw [ht] at hb ⊢
  simp only [r09_Right.l0]
  rw [if_neg (by omega), (right_eq hs (by rw [List.length_map]; exact hl) (by omega)).2, Option.bind_some]
  unfold rightC
  rw [List.all_eq_true.2 hb, Bool.true_and]
 | succ d ih =>
  intro i k hi hk hb
  obtain ⟨k, rfl⟩ := succ_of hk
  have hlt : i < l.length := by omega
  have h0 : (l.take (i + 1)).map (·.f0) = (l.take i).map (·.f0) ++ [l[i].f0] := by rw [take_at hlt, List.map_append]; rfl
  have hlen : ((l.take i).map (·.f0)).length < 3518437208883 := by rw [List.length_map, List.length_take]; omega
  simp only [r09_Right.l0]
  rw [if_pos (by omega), if_pos (by omega), rdC hlt, w64s (by omega)]
  have hnext : bare l[i] = true → r09_Right.l0 k l ((l.take i).map (·.f0) ++ [l[i].f0]) ((i + 1 : Nat) : Int) = some (rightC l) := fun hbi => by
   rw [← h0]
   refine ih (i + 1) k (by omega) (by omega) fun c hc => ?_
   rw [take_at hlt, List.mem_append, List.mem_singleton] at hc
   rcases hc with hc | rfl
   ·
    exact hb c hc
   ·
    exact hbi
  by_cases hg : l[i].f1 = true
  ·
   rw [if_pos hg]
   have hv : (!(l[i].f0.f2.f0 == 0) || l[i].f0.f2.f1) = !bare l[i] := by
    unfold bare
    rw [hg]
    cases l[i].f0.f2.f1 <;> simp
   rw [hv]
   by_cases hbi : bare l[i] = true
   ·
    rw [hbi, if_neg (by decide), if_pos hlen]
    exact hnext hbi
   ·
    rw [Bool.eq_false_iff.2 hbi, if_pos (show (!false) = true from rfl)]
    unfold rightC
    have : l.all bare = false := by
     rw [Bool.eq_false_iff]
     intro h
     exact hbi (List.all_eq_true.1 h _ (List.getElem_mem hlt))
    rw [this, Bool.false_and]
  ·
   rw [if_neg hg, if_pos hlen]
   exact hnext (by unfold bare; rw [Bool.eq_false_iff.2 hg]; rfl)
theorem rcright_eq {l : List Ch} (hs : ShR (l.map (·.f0))) (hl : l.length ≤ 1000) {k : Nat} (hk : 37100 ≤ k) : r09_Right.f k l = some (rightC l) :=
 rcright_l0 hs hl l.length 0 k (by omega) (by omega) (fun c hc => by simp at hc)
end Go.Proofs.YteckidchnicjeaaGreatDoor.Pure
end
section
namespace Go.Proofs.YteckidchnicjeaaGreatDoor.Pure
open Go.RowKit Go.Proofs.YteckidchnicjeaaGreatDoor.X Go.Proofs.YteckidchnicjeaaGreatDoorW.PrintWords Go.Proofs.YteckidchnicjeaaGreatDoorW.PrintLast Go.Proofs.YteckidchnicjeaaGreatDoorW.PrintMore Go.Proofs.YteckidchnicjeaaGreatDoor.Aid Go.Proofs.YteckidchnicjeaaGreatDoor.Bytes
set_option linter.unusedVariables false
theorem rself_l0 {l : List Rw} (hn : l.length ≤ 100000) (d : Nat) : ∀ (i k : Nat), i + d = l.length → d < k → r08_Same.l0 k l l (i : Int) = some true := by
 induction d with
 | zero =>
  intro i k hi hk
  obtain ⟨k, rfl⟩ := succ_of hk
  simp only [r08_Same.l0]
  rw [if_neg (by omega)]
 | succ d ih =>
  intro i k hi hk
  obtain ⟨k, rfl⟩ := succ_of hk
  simp only [r08_Same.l0]
  rw [if_pos (by omega), if_pos (by omega), if_pos (by omega), if_neg (by simp), w64s (by omega)]
  exact ih (i + 1) k (by omega) (by omega)
theorem rself {l : List Rw} (hn : l.length ≤ 100000) {k : Nat} (hk : 100000 < k) : r08_Same.f k l l = some true := by
 unfold r08_Same.f
 rw [if_pos rfl]
 exact rself_l0 hn l.length 0 k (by omega) (by omega)
theorem cself_l0 {l : List Ch} (hn : l.length ≤ 100000) (d : Nat) : ∀ (i k : Nat), i + d = l.length → d < k → r09_Same.l0 k l l (i : Int) = some true := by
 induction d with
 | zero =>
  intro i k hi hk
  obtain ⟨k, rfl⟩ := succ_of hk
  simp only [r09_Same.l0]
  rw [if_neg (by omega)]
 | succ d ih =>
  intro i k hi hk
  obtain ⟨k, rfl⟩ := succ_of hk
  simp only [r09_Same.l0]
  rw [if_pos (by omega), if_pos (by omega), if_pos (by omega), if_neg (by simp), w64s (by omega)]
  exact ih (i + 1) k (by omega) (by omega)
theorem cself {l : List Ch} (hn : l.length ≤ 100000) {k : Nat} (hk : 100000 < k) : r09_Same.f k l l = some true := by
 unfold r09_Same.f
 rw [if_pos rfl]
 exact cself_l0 hn l.length 0 k (by omega) (by omega)
theorem mself (a b c : Int) {l : List Rw} {m : List Ch} (hn : l.length ≤ 100000) (hm : m.length ≤ 100000) {k : Nat} (hk : 100000 < k) : r19_Equal.f k a b c l m a b c l m = some true := by
 unfold r19_Equal.f
 rw [if_pos rfl, if_pos rfl, if_pos rfl, rself hn hk]
 simp only [Option.bind_some, if_true]
 rw [cself hm hk]
 rfl
end Go.Proofs.YteckidchnicjeaaGreatDoor.Pure
end
section
namespace Go.Proofs.YteckidchnicjeaaGreatDoor.Pure
open Go.RowKit Go.Proofs.YteckidchnicjeaaGreatDoor.X Go.Proofs.YteckidchnicjeaaGreatDoorW.PrintWords Go.Proofs.YteckidchnicjeaaGreatDoorW.PrintLast Go.Proofs.YteckidchnicjeaaGreatDoorW.PrintMore Go.Proofs.YteckidchnicjeaaGreatDoor.Aid Go.Proofs.YteckidchnicjeaaGreatDoor.Bytes
set_option linter.unusedVariables false
theorem alive_eq (k : Nat) (hk : 200 ≤ k) : w23_alive.f k = some true :=
 at_rounds (g := fun k => w23_alive.f k) w23_alive.mono hk (by decide +kernel)
theorem fineR_fit {l : List Rw} (h : Fine l) (hr : rightS l = true) : (∀ x ∈ l, FitC (asC x)) ∧ riseB l = true := by
 have h1 := Bool.and_eq_true_iff.mp hr
 exact ⟨fun x hx => ⟨(h.2 x hx).1, (h.2 x hx).2, rfl, of_decide_eq_true (List.all_eq_true.1 h1.2 x hx)⟩, h1.1⟩
theorem fineC_fit {c : List Ch} (h : FineC c) (hr : rightC c = true) : ∀ x ∈ c, FitC x := fun x hx => by
 have h1 := Bool.and_eq_true_iff.mp hr
 have h2 := List.all_eq_true.1 h1.1 x hx
 have h3 := List.all_eq_true.1 (Bool.and_eq_true_iff.mp h1.2).2 x.f0 (List.mem_map.2 ⟨x, hx, rfl⟩)
 exact ⟨(h.2 x hx).1, (h.2 x hx).2, h2, of_decide_eq_true h3⟩
theorem fineR_sh {l : List Rw} (h : Fine l) : ShR l := fun x hx => by have := (h.2 x hx).2; omega
theorem fineC_sh {l : List Ch} (h : FineC l) : ShR (l.map (·.f0)) := fun x hx => by
 obtain ⟨c, hc, rfl⟩ := List.mem_map.1 hx
 have := (h.2 c hc).2
 omega
theorem last_j4 {s : T} (hs : s.length ≤ 500) {k : Nat} (hk : 120000 ≤ k) : w23_ReplyBack.j4 (k + 1) (mk s) = some true := by
 rw [w23_ReplyBack.j4, stored_eq hs (by omega), rows_read hs (by omega), msg_read hs (by omega)]
 simp only [Option.bind_some]
 have m1 : (msgS (spl 32 s)).2.2.2.2.2 = 0 → reply_Message.f k (msgS (spl 32 s)).1 (msgS (spl 32 s)).2.1 (msgS (spl 32 s)).2.2.1 (msgS (spl 32 s)).2.2.2.1 (msgS (spl 32 s)).2.2.2.2.1 = some (mk s) := fun h => by
  obtain ⟨i1, i2, g3, g4, e⟩ := msg_red hs h
  have := msg_eq (m := asM (msgS (spl 32 s))) i1 i2 g3 g4 (k := k) (by omega)
  rw [e] at this
  exact this
 have r1 : (rowsS (spl 32 s)).2.2.2 = 0 → reply_Rows.f k (rowsS (spl 32 s)).1 (rowsS (spl 32 s)).2.1 (rowsS (spl 32 s)).2.2.1 = some (mk s) := fun h => by
  obtain ⟨i1, g, e⟩ := rows_red hs h
  have := ans_eq (rowsS (spl 32 s)).1 i1 g (k := k) (by omega)
  rw [e] at this
  exact this
 have s1 : (storedS (spl 32 s)).2 = 0 → reply_Stored.f (storedS (spl 32 s)).1 = some (mk s) := fun h => by
  obtain ⟨i1, e⟩ := stored_back h
  have := stored_text i1
  rw [e] at this
  exact this
 have last : (if (msgS (spl 32 s)).2.2.2.2.2 = 0 then (reply_Message.f k (msgS (spl 32 s)).1 (msgS (spl 32 s)).2.1 (msgS (spl 32 s)).2.2.1 (msgS (spl 32 s)).2.2.2.1 (msgS (spl 32 s)).2.2.2.2.1).bind (fun t => some (t.toList == (mk s).toList)) else some true) = some true := by
  by_cases h : (msgS (spl 32 s)).2.2.2.2.2 = 0
  ·
   rw [if_pos h, m1 h, Option.bind_some, beq_self_eq_true]
  ·
   rw [if_neg h]
 have mid : (if (rowsS (spl 32 s)).2.2.2 = 0 then (reply_Rows.f k (rowsS (spl 32 s)).1 (rowsS (spl 32 s)).2.1 (rowsS (spl 32 s)).2.2.1).bind (fun t => if t.toList = (mk s).toList then (if (msgS (spl 32 s)).2.2.2.2.2 = 0 then (reply_Message.f k (msgS (spl 32 s)).1 (msgS (spl 32 s)).2.1 (msgS (spl 32 s)).2.2.1 (msgS (spl 32 s)).2.2.2.1 (msgS (spl 32 s)).2.2.2.2.1).bind (fun t => some (t.toList == (mk s).toList)) else some true) else none) else (if (msgS (spl 32 s)).2.2.2.2.2 = 0 then (reply_Message.f k (msgS (spl 32 s)).1 (msgS (spl 32 s)).2.1 (msgS (spl 32 s)).2.2.1 (msgS (spl 32 s)).2.2.2.1 (msgS (spl 32 s)).2.2.2.2.1).bind (fun t => some (t.toList == (mk s).toList)) else some true)) = some true := by
  by_cases h : (rowsS (spl 32 s)).2.2.2 = 0
  ·
   rw [if_pos h, r1 h, Option.bind_some, if_pos rfl]
   exact last
  ·
   rw [if_neg h]
   exact last
 by_cases h : (storedS (spl 32 s)).2 = 0
 ·
  rw [if_pos h, s1 h, Option.bind_some, if_pos rfl]
  exact mid
 ·
  rw [if_neg h]
  exact mid
theorem mid_j3 {s : T} (hs : s.length ≤ 500) {m : Ms} (h1 : I64 m.f1) (h2 : I64 m.f2) (f3 : Fine m.f3) (f4 : FineC m.f4) (b : Bool)
 (hb : b = true → (1 ≤ m.f0 ∧ m.f0 ≤ 3) ∧ 0 ≤ m.f1 ∧ m.f1 < 2147483648 ∧ 0 ≤ m.f2 ∧ rightS m.f3 = true ∧ rightC m.f4 = true ∧ (if m.f0 = 2 then m.f3 = [] else m.f4 = [])) {k : Nat} (hk : 121000 ≤ k) :
 w23_ReplyBack.j3 (k + 1) (mk s) b m.f0 m.f1 m.f2 m.f3 m.f4 = some true := by
 obtain ⟨n, rfl⟩ : ∃ n, k = n + 1 := ⟨k - 1, by omega⟩
 rw [w23_ReplyBack.j3]
 by_cases c : b = true
 ·
  obtain ⟨a1, a2, a3, a4, a5, a6, a7⟩ := hb c
  obtain ⟨x3, y3⟩ := fineR_fit f3 a5
  have l3 := f3.1
  have l4 := f4.1
  rw [if_pos c, msg_eq h1 h2 (fine_g f3) (fine_c f4) (by omega), Option.bind_some, wr_msg a1 h1 a2 a3 h2 a4 x3 f3.1 y3 (fineC_fit f4 a6) f4.1 a6 a7 (by omega), Option.bind_some]
  dsimp only
  rw [if_pos rfl, mself _ _ _ (by omega) (by omega) (by omega), Option.bind_some, if_pos rfl]
  exact last_j4 hs (by omega)
 ·
  rw [if_neg c]
  exact last_j4 hs (by omega)
theorem mid_j2 {s : T} (hs : s.length ≤ 500) {m : Ms} (h1 : I64 m.f1) (h2 : I64 m.f2) (f3 : Fine m.f3) (f4 : FineC m.f4) {k : Nat} (hk : 122000 ≤ k) :
 w23_ReplyBack.j2 (k + 1) (mk s) m.f0 m.f1 m.f2 m.f3 m.f4 = some true := by
 obtain ⟨n, rfl⟩ : ∃ n, k = n + 1 := ⟨k - 1, by omega⟩
 have l3 := f3.1
 have l4 := f4.1
 have no : w23_ReplyBack.j3 (n + 1) (mk s) false m.f0 m.f1 m.f2 m.f3 m.f4 = some true := mid_j3 hs h1 h2 f3 f4 false (fun h => absurd h (by decide)) (by omega)
 rw [w23_ReplyBack.j2]
 by_cases c1 : m.f2 ≥ 0
 ·
  rw [if_pos c1]
  by_cases c2 : m.f1 ≥ 0
  ·
   rw [if_pos c2]
   by_cases c3 : m.f1 < 2147483648
   ·
    rw [if_pos c3, (right_eq (fineR_sh f3) (by omega) (by omega)).2, Option.bind_some]
    by_cases c4 : rightS m.f3 = true
    ·
     rw [if_pos c4, rcright_eq (fineC_sh f4) (by omega) (by omega), Option.bind_some]
     by_cases c5 : rightC m.f4 = true
     ·
      rw [if_pos c5]
      have go : ∀ b : Bool, (b = true → (1 ≤ m.f0 ∧ m.f0 ≤ 3) ∧ (if m.f0 = 2 then m.f3 = [] else m.f4 = [])) → w23_ReplyBack.j3 (n + 1) (mk s) b m.f0 m.f1 m.f2 m.f3 m.f4 = some true := fun b hb =>
       mid_j3 hs h1 h2 f3 f4 b (fun e => ⟨(hb e).1, c2, c3, c1, c4, c5, (hb e).2⟩) (by omega)
      have z4 : ((m.f4.length : Int) == 0) = true → m.f4 = [] := fun h => List.eq_nil_of_length_eq_zero (by have := beq_iff_eq.1 h; omega)
      by_cases d2 : m.f0 = 2
      ·
       rw [if_pos d2]
       by_cases d3 : (m.f3.length : Int) = 0
       ·
        rw [if_pos d3]
        exact go true fun _ => ⟨by omega, by rw [if_pos d2]; exact List.eq_nil_of_length_eq_zero (by omega)⟩
       ·
        rw [if_neg d3, if_neg (by omega), if_neg (by omega)]
        exact no
      ·
       rw [if_neg d2]
       by_cases d1 : m.f0 = 1
       ·
        rw [if_pos d1]
        exact go _ fun e => ⟨by omega, by rw [if_neg d2]; exact z4 e⟩
       ·
        rw [if_neg d1]
        by_cases d3 : m.f0 = 3
        ·
         rw [if_pos d3]
         exact go _ fun e => ⟨by omega, by rw [if_neg d2]; exact z4 e⟩
        ·
         rw [if_neg d3]
         exact no
     ·
      rw [if_neg c5]
      exact no
    ·
     rw [if_neg c4]
     exact no
   ·
    rw [if_neg c3]
    exact no
  ·
   rw [if_neg c2]
   exact no
 ·
  rw [if_neg c1]
  exact no
theorem ReplyBack : w23_ReplyBack.Pure := by
 intro a m x ha hm _
 obtain ⟨s, rfl⟩ := str_mk x
 obtain ⟨K, hK⟩ : ∃ K : Nat, 200000 ≤ K := ⟨_, Nat.le_refl _⟩
 refine ⟨K + 1 + 1 + 1, ?_⟩
 unfold w23_ReplyBack.f
 rw [alive_eq _ (by omega), Option.bind_some, if_pos rfl]
 have jt : ∀ (y0 y1 : Int) (l : List Rw) (z0 z1 z2 : Int) (l3 : List Rw) (l4 : List Ch), w23_ReplyBack.j0 (K + 1 + 1 + 1) (mk s) true y0 y1 l z0 z1 z2 l3 l4 = some true := fun _ _ _ _ _ _ _ _ => by
  rw [w23_ReplyBack.j0, if_pos rfl]
 have hR : ∀ x ∈ a.f2, Q60 x := ha.2.2.2
 rcases rgreat_eq a.f2 hR (k := K + 1 + 1 + 1) (by omega) with h | ⟨h, fa⟩
 ·
  rw [h, Option.bind_some, if_pos rfl]
  exact jt _ _ _ _ _ _ _ _
 ·
  rw [h, Option.bind_some, if_neg (by decide)]
  have hm3 : ∀ x ∈ m.f3, Q60 x := hm.2.2.2.1.2
  have hm4 : ∀ x ∈ m.f4, Q78 x := hm.2.2.2.2.2
  have e : (⟨m.f0, m.f1, m.f2, m.f3, m.f4⟩ : Ms) = m := rfl
  rw [e]
  rcases much_eq m hm3 hm4 (k := K + 1 + 1 + 1) (by omega) with h2 | ⟨h2, f3, f4⟩
  ·
   rw [h2, Option.bind_some, if_pos rfl]
   exact jt _ _ _ _ _ _ _ _
  ·
   rw [h2, Option.bind_some, if_neg (by decide), mk_size]
   by_cases hs' : (s.length : Int) > 500
   ·
    rw [decide_eq_true hs']
    exact jt _ _ _ _ _ _ _ _
   ·
    have hs : s.length ≤ 500 := by omega
    have la := fa.1
    rw [decide_eq_false hs', w23_ReplyBack.j0, if_neg (by decide)]
    have i1 : I64 m.f1 := wf64 hm.2.1
    have i2 : I64 m.f2 := wf64 hm.2.2.1
    have i0 : I64 a.f1 := wf64 ha.2.1
    have nx := mid_j2 hs i1 i2 f3 f4 (k := K) (by omega)
    have no : w23_ReplyBack.j1 (K + 1 + 1) (mk s) false a.f0 a.f1 a.f2 m.f0 m.f1 m.f2 m.f3 m.f4 = some true := by
     rw [w23_ReplyBack.j1, if_neg (by decide)]
     exact nx
    by_cases c1 : a.f1 ≥ 0
    ·
     rw [if_pos c1, (right_eq (fineR_sh fa) (by omega) (by omega)).2, Option.bind_some]
     by_cases c2 : rightS a.f2 = true
     ·
      obtain ⟨x1, y1⟩ := fineR_fit fa c2
      rw [c2, w23_ReplyBack.j1, if_pos rfl, ans_eq _ i0 (fine_g fa) (by omega), Option.bind_some, wr_rows i0 c1 x1 fa.1 y1 (by omega), Option.bind_some]
      dsimp only
      rw [if_pos rfl, if_pos rfl, if_pos rfl, rself (by omega) (by omega), Option.bind_some, if_pos rfl]
      exact nx
     ·
      rw [Bool.eq_false_iff.2 c2]
      exact no
    ·
     rw [if_neg c1]
     exact no
end Go.Proofs.YteckidchnicjeaaGreatDoor.Pure
end
