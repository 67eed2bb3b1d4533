/- Plain facts on what the printed functions compute, joined; each says its conditions. -/
import Derived.Test.YtgcbejidponoaaaGreatDoorM14
import Derived.Test.YtgcbejidponoaaaGreatDoorM5
import Derived.Test.YtgcbejidponoaaaGreatDoorM8
import Derived.Test.YtgcbejidponoaaaGreatDoorM12
import Derived.Test.YtgcbejidponoaaaGreatDoorM13
import Derived.Test.YtgcbejidponoaaaGreatDoorM6
import Derived.Test.YtgcbejidponoaaaGreatDoorM1
section
namespace Go.Proofs.YtgcbejidponoaaaGreatDoor.Pure
open Go.RowKit Go.Proofs.YtgcbejidponoaaaGreatDoor.X Go.Proofs.YtgcbejidponoaaaGreatDoorW.PrintWords Go.Proofs.YtgcbejidponoaaaGreatDoorW.PrintLast Go.Proofs.YtgcbejidponoaaaGreatDoorW.PrintMore Go.Proofs.YtgcbejidponoaaaGreatDoor.Aid Go.Proofs.YtgcbejidponoaaaGreatDoor.Bytes
def chT (c : Ch) : T := if c.f1 = true then [33] ++ (Lib.itoa c.f0.f0 ++ [124] ++ bl c.f0.f1) else rowT c.f0
def chsT (l : List Ch) : T := if l = [] then [45] else Lib.join (l.map chT) [59]
def GCh (l : List Ch) : Prop := l.length ≤ 1000 ∧ ∀ c ∈ l, GRow c.f0
theorem chT_len {c : Ch} (h : GRow c.f0) : (chT c).length ≤ 1300 := by
 have h1 := rowT_len h
 have h0 := itoa_len h.1
 have h2 := h.2.1
 have h3 := bl_len c.f0.f1
 unfold chT
 split
 ·
  simp only [List.length_append, List.length_singleton]
  omega
 ·
  exact h1
theorem chs_tot {l : List Ch} (h : GCh l) : tot (l.map chT) ≤ 1300000 := by
 have h1 := tot_le 1300 (l.map chT) (fun x hx => by
  obtain ⟨y, hy, rfl⟩ := List.mem_map.mp hx
  exact chT_len (h.2 y hy))
 rw [List.length_map] at h1
 have := h.1
 omega
theorem one_row {x : Rw} (h : GRow x) {k : Nat} (hk : 2200 ≤ k) : row_Text.f k [x] = some (mk (rowT x)) := by
 have g : GRows [x] := ⟨by simp, fun y hy => by rw [List.mem_singleton] at hy; rw [hy]; exact h⟩
 have e : rowsT [x] = rowT x := by
  unfold rowsT
  rw [if_neg (by simp), List.map_cons, List.map_nil, Lib.join_one]
 have a := rows_eq g (k := k) (by omega)
 rw [e] at a
 exact a
theorem num_grp {x : Rw} (h : GRow x) : word_Join.f (⟨#[124]⟩ : ByteArray) [mk (Lib.itoa x.f0), x.f1] = some (mk (Lib.itoa x.f0 ++ [124] ++ bl x.f1)) := by
 have h0 := itoa_len h.1
 have h1 := h.2.1
 have h2 := bl_len x.f1
 have := join_eq (L := [Lib.itoa x.f0, bl x.f1]) (s := [124]) (by simp) (by rw [join2]; simp only [List.length_append, List.length_singleton]; omega)
 rw [join2, List.map_cons, List.map_cons, bl_eta] at this
 exact this
theorem ctext_l0 {l : List Ch} (h : GCh l) (d : Nat) : ∀ (i k : Nat), i + d = l.length → d + 2300 < k →
 diff_Text.l0 k ((l.take i).map fun x => mk (chT x)) l (l.length : Int) (i : Int) = some (mk (Lib.join (l.map chT) [59])) := by
 have hl := h.1
 induction d with
 | zero =>
  intro i k hi hk
  obtain ⟨k, rfl⟩ := succ_of (show 0 < k by omega)
  have hj := join_len [59] (l.map chT)
  have ht := chs_tot h
  rw [List.length_map, List.length_singleton] at hj
  have e := join_eq (L := l.map chT) (s := [59]) (by rw [List.length_map]; omega) (by omega)
  rw [List.map_map] at e
  simp only [diff_Text.l0]
  rw [if_neg (by omega), List.take_of_length_le (by omega)]
  have e2 : word_Join.f (⟨#[59]⟩ : ByteArray) (l.map fun x => mk (chT x)) = some (mk (Lib.join (l.map chT) [59])) := e
  rw [e2, Option.bind_some]
 | succ d ih =>
  intro i k hi hk
  obtain ⟨k, rfl⟩ := succ_of (show 0 < k by omega)
  have hlt : i < l.length := by omega
  have hx := h.2 _ (List.getElem_mem hlt)
  have e2 : ((l.take i).map fun x => mk (chT x)) ++ [mk (chT l[i])] = (l.take (i + 1)).map fun x => mk (chT x) := by rw [take_at hlt, List.map_append]; rfl
  have hlen : ((l.take i).map fun x => mk (chT x)).length < 8796093022208 := by rw [List.length_map, List.length_take]; omega
  have hih := ih (i + 1) k (by omega) (by omega)
  have c1 : (i : Int) < (l.length : Int) := by omega
  have c2 : 0 ≤ (i : Int) := by omega
  simp only [diff_Text.l0]
  rw [if_pos c1, if_pos c2, if_pos c1, rdC hlt]
  by_cases hc : l[i].f1 = true
  ·
   have e : chT l[i] = [33] ++ (Lib.itoa l[i].f0.f0 ++ [124] ++ bl l[i].f0.f1) := by unfold chT; rw [if_pos hc]
   have em : (⟨#[33]⟩ : ByteArray) ++ mk (Lib.itoa l[i].f0.f0 ++ [124] ++ bl l[i].f0.f1) = mk (chT l[i]) := by
    rw [e]
    exact mk_append [33] _
   have hcl := chT_len hx
   rw [e, List.length_append] at hcl
   rw [if_pos hc, format_eq hx.1, Option.bind_some, num_grp hx, Option.bind_some, em, mk_size, if_pos (by omega), if_pos hlen, e2, w64s (by omega), hih]
  ·
   have e : chT l[i] = rowT l[i].f0 := by unfold chT; rw [if_neg hc]
   have e1 := one_row hx (k := k) (by omega)
   have e1' : row_Text.f k [(⟨l[i].f0.f0, l[i].f0.f1, (⟨l[i].f0.f2.f0, l[i].f0.f2.f1⟩ : S43)⟩ : Rw)] = some (mk (chT l[i])) := by rw [e]; exact e1
   rw [if_neg hc, e1', Option.bind_some, if_pos hlen, e2, w64s (by omega), hih]
theorem ctext_eq {l : List Ch} (h : GCh l) {k : Nat} (hk : 3400 ≤ k) : diff_Text.f k l = some (mk (chsT l)) := by
 have hl := h.1
 unfold diff_Text.f chsT
 by_cases c : l = []
 ·
  subst c
  rfl
 ·
  have : l.length ≠ 0 := fun e => c (List.eq_nil_of_length_eq_zero e)
  rw [if_neg (by omega), if_neg c]
  exact ctext_l0 h l.length 0 k (by omega) (by omega)
end Go.Proofs.YtgcbejidponoaaaGreatDoor.Pure
end
section
namespace Go.Proofs.YtgcbejidponoaaaGreatDoor.Pure
open Go.RowKit Go.Proofs.YtgcbejidponoaaaGreatDoor.X Go.Proofs.YtgcbejidponoaaaGreatDoorW.PrintWords Go.Proofs.YtgcbejidponoaaaGreatDoorW.PrintLast Go.Proofs.YtgcbejidponoaaaGreatDoorW.PrintMore Go.Proofs.YtgcbejidponoaaaGreatDoor.Aid Go.Proofs.YtgcbejidponoaaaGreatDoor.Bytes Go.Proofs.YtgcbejidponoaaaGreatDoor.Decs
theorem cutp_eq (l : T) : strings_CutPrefix.f (mk l) (⟨#[33]⟩ : ByteArray) = some (mk (if l.head? = some 33 then l.drop 1 else l), decide (l.head? = some 33)) := by
 unfold strings_CutPrefix.f stringslite_CutPrefix.f stringslite_HasPrefix.f
 have e1 : ((⟨#[33]⟩ : ByteArray).size : Int) = 1 := rfl
 rw [e1]
 cases l with
 | nil => rfl
 | cons c r =>
  have es : ((mk (c :: r)).size : Int) = (r.length : Int) + 1 := by rw [mk_size, List.length_cons]; omega
  have ei : ((1 : Int)).toNat = 1 := rfl
  have et : (⟨#[33]⟩ : ByteArray).toList = [33] := mk_toList [33]
  rw [es, if_pos (by omega), if_pos (by omega), if_pos (by omega), ei, mk_upto, mk_toList, et, Option.bind_some]
  by_cases h : c = 33
  ·
   subst h
   rw [if_pos (by rfl), if_pos (by omega), if_pos (by omega), mk_from]
   rfl
  ·
   rw [if_neg (by simpa using h)]
   simp [h]
def zC : Ch := ⟨zR, false⟩
def leafC (t : T) : Ch × Int :=
 match spl 124 t with
 | [a, b] => if (readS a).2 = 0 then (if grp b = 0 then (⟨⟨(readS a).1, mk b, ⟨0, false⟩⟩, true⟩, 0) else (zC, grp b)) else (zC, (readS a).2)
 | _ => (zC, 2)
theorem leafC_2 {t a b : T} (h : spl 124 t = [a, b]) : leafC t = if (readS a).2 = 0 then (if grp b = 0 then (⟨⟨(readS a).1, mk b, ⟨0, false⟩⟩, true⟩, 0) else (zC, grp b)) else (zC, (readS a).2) := by
 unfold leafC
 rw [h]
theorem leafC_o {t : T} (h : (spl 124 t).length ≠ 2) : leafC t = (zC, 2) := by
 unfold leafC
 match hs : spl 124 t, h with
 | [], _ => rfl
 | [a], _ => rfl
 | [a, b], h => exact absurd rfl h
 | a :: b :: c :: L, _ => rfl
def TellsC (x : Option (Int × ByteArray × Int × Bool × Bool × Int)) (y : Ch × Int) : Prop := ∃ (w : Int) (g : ByteArray) (v : Int) (o d : Bool), x = some (w, g, v, o, d, y.2) ∧ (y.2 = 0 → (⟨⟨w, g, ⟨v, o⟩⟩, d⟩ : Ch) = y.1)
theorem two_ {L : List T} (h : L.length = 2) : ∃ a b, L = [a, b] := by
 match L, h with
 | [a, b], _ => exact ⟨a, b, rfl⟩
theorem q0 (a b : T) : rdOf ByteArray.empty ([a, b].map mk) 0 = mk a := rfl
theorem q1 (a b : T) : rdOf ByteArray.empty ([a, b].map mk) 1 = mk b := rfl
theorem leaf_tells {t : T} (ht : t.length ≤ 600) {k : Nat} (hk : 30000 ≤ k) : TellsC (diff_leaves.f k (mk t)) (leafC t) := by
 unfold diff_leaves.f
 rw [show (124 : Int) = ((124 : UInt8).toNat : Int) from rfl, split_eq 124 (by omega) k (by omega), Option.bind_some]
 by_cases h : (spl 124 t).length = 2
 ·
  obtain ⟨a, b, hs⟩ := two_ h
  have sa := spl_short 124 t a (by rw [hs]; simp)
  have sb := spl_short 124 t b (by rw [hs]; simp)
  obtain ⟨g1, g2⟩ := parseG_sh (s := b) (by omega)
  rw [hs, leafC_2 hs, if_pos (by simp), if_pos (by simp), if_pos (by simp), q0, q1, read_eq (by omega), Option.bind_some]
  by_cases h1 : (readS a).2 = 0
  ·
   rw [if_pos h1, if_pos h1, parse_eq (by omega) hk, Option.bind_some]
   unfold grp
   by_cases h2 : (parseG b).2 = 0
   ·
    rw [if_pos h2, if_pos h2, ttext_eq g1 (by omega) (by omega), Option.bind_some, mk_toList, mk_toList]
    by_cases h3 : tagsT (parseG b).1 = b
    ·
     rw [if_pos h3, if_pos h3, if_pos rfl, h2]
     exact ⟨_, _, _, _, _, rfl, fun _ => rfl⟩
    ·
     rw [if_neg h3, if_neg h3, if_neg (by decide)]
     exact ⟨_, _, _, _, _, rfl, fun e => absurd e (by decide)⟩
   ·
    rw [if_neg h2, if_neg h2, if_neg h2]
    exact ⟨_, _, _, _, _, rfl, fun e => absurd e h2⟩
  ·
   rw [if_neg h1, if_neg h1]
   exact ⟨_, _, _, _, _, rfl, fun e => absurd e h1⟩
 ·
  rw [leafC_o h, if_neg (by rw [List.length_map]; omega)]
  exact ⟨_, _, _, _, _, rfl, fun e => absurd e (by decide)⟩
def oneC (t : T) : Ch × Int := if t.head? = some 33 then leafC (t.drop 1) else if t = [45] then (zC, 2) else if (oneR t).2 = 0 then (newC (oneR t).1, 0) else (zC, (oneR t).2)
theorem onec_tells {t : T} (ht : t.length ≤ 600) (h59 : (59 : UInt8) ∉ t) {k : Nat} (hk : 42000 ≤ k) : TellsC (diff_one.f k (mk t)) (oneC t) := by
 unfold diff_one.f oneC
 rw [cutp_eq, Option.bind_some]
 by_cases h : t.head? = some 33
 ·
  rw [decide_eq_true h, if_pos rfl, if_pos h, if_pos h]
  obtain ⟨w, g, v, o, d, e, f⟩ := leaf_tells (t := t.drop 1) (by rw [List.length_drop]; omega) (k := k) (by omega)
  rw [e, Option.bind_some]
  exact ⟨w, g, v, o, d, rfl, f⟩
 ·
  rw [decide_eq_false h, if_neg Bool.false_ne_true, if_neg h, (rows_parse ht (by omega)).1, Option.bind_some]
  by_cases h2 : t = [45]
  ·
   rw [if_pos h2]
   unfold parseR
   rw [if_pos h2]
   exact ⟨_, _, _, _, _, rfl, fun e => absurd e (by decide)⟩
  ·
   rw [if_neg h2, parseR_one h2 h59]
   by_cases h3 : (oneR t).2 = 0
   ·
    rw [if_pos h3, if_pos h3]
    exact ⟨_, _, _, _, _, rfl, fun _ => rfl⟩
   ·
    rw [if_neg h3, if_neg h3, if_neg h3]
    exact ⟨_, _, _, _, _, rfl, fun e => absurd e h3⟩
theorem oneC_back {t : T} (h : (oneC t).2 = 0) (ht : t.length ≤ 600) : chT (oneC t).1 = t ∧ GRow (oneC t).1.f0 ∧ (oneC t).1.f0.f1.size ≤ 600 := by
 unfold oneC at h ⊢
 by_cases h0 : t.head? = some 33
 ·
  rw [if_pos h0] at h ⊢
  obtain ⟨r, rfl⟩ : ∃ r, t = 33 :: r := by
   cases t with
   | nil => cases h0
   | cons c r => injection h0 with h0; exact ⟨r, by rw [h0]⟩
  rw [show (33 :: r : T).drop 1 = r from rfl] at h ⊢
  rw [List.length_cons] at ht
  by_cases hl : (spl 124 r).length = 2
  ·
   obtain ⟨a, b, hs⟩ := two_ hl
   have sb := spl_short 124 r b (by rw [hs]; simp)
   rw [leafC_2 hs] at h ⊢
   by_cases h1 : (readS a).2 = 0
   ·
    rw [if_pos h1] at h ⊢
    by_cases h2 : grp b = 0
    ·
     rw [if_pos h2]
     obtain ⟨i1, e1⟩ := read_back h1
     have hj := join_spl 124 r
     rw [hs] at hj
     have hz : (mk b).size ≤ 600 := by rw [mk_size]; omega
     refine ⟨?_, ⟨i1, by show (mk b).size ≤ 1000; omega, (show I64 0 from ⟨by decide, by decide⟩)⟩, hz⟩
     unfold chT
     rw [if_pos rfl]
     show [33] ++ (Lib.itoa (readS a).1 ++ [124] ++ bl (mk b)) = 33 :: r
     rw [e1, show bl (mk b) = b from mk_data b]
     conv => rhs; rw [← hj]
     simp [Lib.join_cons, Lib.joinTail]
    ·
     rw [if_neg h2] at h
     exact absurd h h2
   ·
    rw [if_neg h1] at h
    exact absurd h h1
  ·
   rw [leafC_o hl] at h
   exact absurd h (by decide)
 ·
  rw [if_neg h0] at h ⊢
  by_cases h2 : t = [45]
  ·
   rw [if_pos h2] at h
   exact absurd h (by decide)
  ·
   rw [if_neg h2] at h ⊢
   by_cases h3 : (oneR t).2 = 0
   ·
    rw [if_pos h3]
    obtain ⟨e, g⟩ := oneR_back h3 ht
    exact ⟨e, g, oneR_sz h3 ht⟩
   ·
    rw [if_neg h3] at h
    exact absurd h h3
def chsP : List T → List Ch → List Ch × Int
 | [], acc => if rightC acc = true then (acc, 0) else ([], 9)
 | t :: L, acc => if (oneC t).2 = 0 then chsP L (acc ++ [(oneC t).1]) else ([], (oneC t).2)
def parseC (s : T) : List Ch × Int := if s = [45] then ([], 0) else chsP (spl 59 s) []
theorem chs_l0 {L : List T} (hL : ∀ p ∈ L, p.length ≤ 600 ∧ (59 : UInt8) ∉ p) (hn : L.length ≤ 1000) (d : Nat) : ∀ (i k : Nat) (acc : List Ch), i + d = L.length → d + 43000 < k → acc.length ≤ i → (∀ c ∈ acc, c.f0.f1.size ≤ 600) →
 diff_Parse.l0 k acc (L.map mk) (L.length : Int) (i : Int) = some (chsP (L.drop i) acc) := by
 induction d with
 | zero =>
  intro i k acc hi hk ha hz
  obtain ⟨k, rfl⟩ := succ_of (show 0 < k by omega)
  have hs : ShR (acc.map (·.f0)) := fun x hx => by
   obtain ⟨c, hc, rfl⟩ := List.mem_map.1 hx
   have := hz c hc
   omega
  simp only [diff_Parse.l0]
  rw [if_neg (by omega), List.drop_of_length_le (by omega), cright_eq hs (by omega) (by omega), Option.bind_some, chsP]
  split
  ·
   rfl
  ·
   rfl
 | succ d ih =>
  intro i k acc hi hk ha hz
  obtain ⟨k, rfl⟩ := succ_of (show 0 < k by omega)
  have hlt : i < L.length := by omega
  obtain ⟨hp, hq⟩ := hL _ (List.getElem_mem hlt)
  obtain ⟨w, g, v, o, d2, e1, f1⟩ := onec_tells hp hq (k := k) (by omega)
  simp only [diff_Parse.l0]
  rw [List.length_map, if_pos (by omega), if_pos (by omega), if_pos (by omega), rdm hlt, e1, drop_at hlt, chsP, w64s (by omega)]
  simp only [Option.bind_some]
  by_cases h : (oneC L[i]).2 = 0
  ·
   rw [if_pos h, if_pos h, if_pos (by omega), f1 h]
   refine ih (i + 1) k _ (by omega) (by omega) (by rw [List.length_append, List.length_singleton]; omega) fun c hc => ?_
   rcases List.mem_append.1 hc with hc | hc
   ·
    exact hz c hc
   ·
    rw [List.mem_singleton.1 hc]
    exact (oneC_back h hp).2.2
  ·
   rw [if_neg h, if_neg h]
theorem chs_back : ∀ (L : List T) (acc : List Ch), (∀ p ∈ L, p.length ≤ 600) → (chsP L acc).2 = 0 → (chsP L acc).1.map chT = acc.map chT ++ L ∧ ((∀ c ∈ acc, GRow c.f0) → ∀ c ∈ (chsP L acc).1, GRow c.f0)
 | [], acc, _, h => by
  rw [chsP] at h ⊢
  by_cases hr : rightC acc = true
  ·
   rw [if_pos hr]
   exact ⟨by simp, fun g => g⟩
  ·
   rw [if_neg hr] at h
   exact absurd h (by decide)
 | t :: L, acc, hL, h => by
  rw [chsP] at h ⊢
  by_cases ho : (oneC t).2 = 0
  ·
   rw [if_pos ho] at h ⊢
   obtain ⟨e, g, _⟩ := oneC_back ho (hL t List.mem_cons_self)
   obtain ⟨e2, g2⟩ := chs_back L (acc ++ [(oneC t).1]) (fun p hp => hL p (List.mem_cons_of_mem _ hp)) h
   refine ⟨by rw [e2, List.map_append, List.map_cons, List.map_nil, e]; simp, fun ga => g2 fun c hc => ?_⟩
   rcases List.mem_append.1 hc with hc | hc
   ·
    exact ga c hc
   ·
    rw [List.mem_singleton.1 hc]
    exact g
  ·
   rw [if_neg ho] at h
   exact absurd h ho
theorem cparse_eq {s : T} (hs : s.length ≤ 600) {k : Nat} (hk : 45000 ≤ k) : diff_Parse.f k (mk s) = some (parseC s) := by
 unfold diff_Parse.f parseC
 rw [mk_toList]
 by_cases h : s = [45]
 ·
  rw [if_pos h, if_pos h]
 ·
  have hl := spl_len 59 s
  have := chs_l0 (L := spl 59 s) (fun p hp => ⟨by have := spl_short 59 s p hp; omega, spl_out 59 s p hp⟩) (by omega) (spl 59 s).length 0 k [] (by omega) (by omega) (by simp) (fun c hc => by simp at hc)
  rw [if_neg h, if_neg h, show (59 : Int) = ((59 : UInt8).toNat : Int) from rfl, split_eq 59 (by omega) k (by omega), Option.bind_some, List.length_map]
  exact this
theorem parse_len (s : T) : (parseC s).1.length ≤ s.length + 1 := by
 have hh : ∀ (L : List T) (acc : List Ch), (chsP L acc).1.length ≤ acc.length + L.length := by
  intro L
  induction L with
  | nil =>
   intro acc
   rw [chsP]
   split
   ·
    simp
   ·
    simp
  | cons t L ih =>
   intro acc
   rw [chsP]
   split
   ·
    have := ih (acc ++ [(oneC t).1])
    rw [List.length_append, List.length_singleton] at this
    rw [List.length_cons]
    omega
   ·
    simp
 unfold parseC
 split
 ·
  simp
 ·
  have := hh (spl 59 s) []
  have := spl_len 59 s
  rw [List.length_nil] at *
  omega
theorem parse_text {s : T} (hs : s.length ≤ 600) (h : (parseC s).2 = 0) : chsT (parseC s).1 = s ∧ GCh (parseC s).1 := by
 have hl := parse_len s
 unfold parseC at h hl ⊢
 by_cases h0 : s = [45]
 ·
  rw [if_pos h0]
  exact ⟨by rw [h0]; rfl, by simp, fun c hc => by cases hc⟩
 ·
  rw [if_neg h0] at h hl ⊢
  obtain ⟨e, g⟩ := chs_back (spl 59 s) [] (fun p hp => by have := spl_short 59 s p hp; omega) h
  refine ⟨?_, by omega, g (fun c hc => by cases hc)⟩
  rw [List.map_nil, List.nil_append] at e
  unfold chsT
  rw [if_neg (fun e2 => by rw [e2] at e; exact spl_ne 59 s e.symm), e, join_spl]
end Go.Proofs.YtgcbejidponoaaaGreatDoor.Pure
end
section
namespace Go.Proofs.YtgcbejidponoaaaGreatDoor.Pure
open Go.RowKit Go.Proofs.YtgcbejidponoaaaGreatDoor.X Go.Proofs.YtgcbejidponoaaaGreatDoorW.PrintWords Go.Proofs.YtgcbejidponoaaaGreatDoorW.PrintLast Go.Proofs.YtgcbejidponoaaaGreatDoorW.PrintMore Go.Proofs.YtgcbejidponoaaaGreatDoor.Aid Go.Proofs.YtgcbejidponoaaaGreatDoor.Bytes
theorem rcright_l0 {l : List Ch} (hs : ShR (l.map (·.f0))) (hl : l.length ≤ 1000) (d : Nat) : ∀ (i k : Nat), i + d = l.length → d + 36000 < k → (∀ c ∈ l.take i, bare c = true) →
 r09_Right.l0 k l ((l.take i).map (·.f0)) (i : Int) = some (rightC l) := by
 induction d with
 | zero =>
  intro i k hi hk hb
  obtain ⟨k, rfl⟩ := succ_of hk
  have ht : l.take i = l := List.take_of_length_le (by omega)
  rw [ht] at hb ⊢
  simp only [r09_Right.l0]
  rw [if_neg (by omega), (right_eq hs (by rw [List.length_map]; exact hl) (by omega)).2, Option.bind_some]
  unfold rightC
  rw [List.all_eq_true.2 hb, Bool.true_and]
 | succ d ih =>
  intro i k hi hk hb
  obtain ⟨k, rfl⟩ := succ_of hk
  have hlt : i < l.length := by omega
  have h0 : (l.take (i + 1)).map (·.f0) = (l.take i).map (·.f0) ++ [l[i].f0] := by rw [take_at hlt, List.map_append]; rfl
  have hlen : ((l.take i).map (·.f0)).length < 3518437208883 := by rw [List.length_map, List.length_take]; omega
  simp only [r09_Right.l0]
  rw [if_pos (by omega), if_pos (by omega), rdC hlt, w64s (by omega)]
  have hnext : bare l[i] = true → r09_Right.l0 k l ((l.take i).map (·.f0) ++ [l[i].f0]) ((i + 1 : Nat) : Int) = some (rightC l) := fun hbi => by
   rw [← h0]
   refine ih (i + 1) k (by omega) (by omega) fun c hc => ?_
   rw [take_at hlt, List.mem_append, List.mem_singleton] at hc
   rcases hc with hc | rfl
   ·
    exact hb c hc
   ·
    exact hbi
  by_cases hg : l[i].f1 = true
  ·
   rw [if_pos hg]
   have hv : (!(l[i].f0.f2.f0 == 0) || l[i].f0.f2.f1) = !bare l[i] := by
    unfold bare
    rw [hg]
    cases l[i].f0.f2.f1 <;> simp
   rw [hv]
   by_cases hbi : bare l[i] = true
   ·
    rw [hbi, if_neg (by decide), if_pos hlen]
    exact hnext hbi
   ·
    rw [Bool.eq_false_iff.2 hbi, if_pos (show (!false) = true from rfl)]
    unfold rightC
    have : l.all bare = false := by
     rw [Bool.eq_false_iff]
     intro h
     exact hbi (List.all_eq_true.1 h _ (List.getElem_mem hlt))
    rw [this, Bool.false_and]
  ·
   rw [if_neg hg, if_pos hlen]
   exact hnext (by unfold bare; rw [Bool.eq_false_iff.2 hg]; rfl)
theorem rcright_eq {l : List Ch} (hs : ShR (l.map (·.f0))) (hl : l.length ≤ 1000) {k : Nat} (hk : 37100 ≤ k) : r09_Right.f k l = some (rightC l) :=
 rcright_l0 hs hl l.length 0 k (by omega) (by omega) (fun c hc => by simp at hc)
end Go.Proofs.YtgcbejidponoaaaGreatDoor.Pure
end
section
namespace Go.Proofs.YtgcbejidponoaaaGreatDoor.Pure
open Go.RowKit Go.Proofs.YtgcbejidponoaaaGreatDoor.X Go.Proofs.YtgcbejidponoaaaGreatDoorW.PrintWords Go.Proofs.YtgcbejidponoaaaGreatDoorW.PrintLast Go.Proofs.YtgcbejidponoaaaGreatDoorW.PrintMore Go.Proofs.YtgcbejidponoaaaGreatDoor.Aid Go.Proofs.YtgcbejidponoaaaGreatDoor.Bytes Go.Proofs.YtgcbejidponoaaaGreatDoor.Decs
theorem ronec_j0 {t : T} (ht : t.length ≤ 600) (h59 : (59 : UInt8) ∉ t) (h45 : t ≠ [45]) {k : Nat} (hk : 42000 ≤ k) : TellsC (r09_one.j0 (k + 1) (mk t) (decide (t.head? ≠ some 33))) (oneC t) := by
 rw [r09_one.j0]
 unfold oneC
 by_cases h : t.head? = some 33
 ·
  obtain ⟨r, rfl⟩ : ∃ r, t = 33 :: r := by
   cases t with
   | nil => cases h
   | cons c r => injection h with h; exact ⟨r, by rw [h]⟩
  rw [List.length_cons] at ht
  have ex : (mk (33 :: r)).extract 1 (mk (33 :: r)).size = mk r := mk_from (33 :: r) 1
  rw [if_neg (by simp), if_pos h, if_pos (by rw [mk_size, List.length_cons]; omega), ex, show (33 :: r : T).drop 1 = r from rfl, show (124 : Int) = ((124 : UInt8).toNat : Int) from rfl, rsplit_eq 124 (by omega) k (by omega), Option.bind_some]
  by_cases hl : (spl 124 r).length = 2
  ·
   obtain ⟨a, b, hs⟩ := two_ hl
   have sa := spl_short 124 r a (by rw [hs]; simp)
   have sb := spl_short 124 r b (by rw [hs]; simp)
   obtain ⟨g1, g2⟩ := parseG_sh (s := b) (by omega)
   rw [hs, leafC_2 hs, if_pos (by simp), if_pos (by simp), q0, q1, rread_eq (by omega) (by omega), Option.bind_some]
   by_cases h1 : (readS a).2 = 0
   ·
    rw [if_pos h1, if_pos h1, if_pos (by simp), rparse_eq (by omega) (by omega), Option.bind_some]
    unfold grp
    by_cases h2 : (parseG b).2 = 0
    ·
     rw [if_pos h2, if_pos h2, rttext_eq g1 (by omega) (by omega), Option.bind_some, mk_toList, mk_toList]
     by_cases h3 : tagsT (parseG b).1 = b
     ·
      rw [if_pos h3, if_pos h3, if_pos rfl]
      exact ⟨_, _, _, _, _, rfl, fun _ => rfl⟩
     ·
      rw [if_neg h3, if_neg h3, if_neg (by decide)]
      exact ⟨_, _, _, _, _, rfl, fun e => absurd e (by decide)⟩
    ·
     rw [if_neg h2, if_neg h2, if_neg h2]
     exact ⟨_, _, _, _, _, rfl, fun e => absurd e h2⟩
   ·
    rw [if_neg h1, if_neg h1]
    exact ⟨_, _, _, _, _, rfl, fun e => absurd e h1⟩
  ·
   rw [leafC_o hl, if_neg (by rw [List.length_map]; omega)]
   exact ⟨_, _, _, _, _, rfl, fun e => absurd e (by decide)⟩
 ·
  rw [if_pos (decide_eq_true h), if_neg h, if_neg h45, (rows_parse ht (by omega)).2, Option.bind_some, parseR_one h45 h59]
  by_cases h3 : (oneR t).2 = 0
  ·
   rw [if_pos h3, if_pos h3, if_pos rfl, if_pos (by simp)]
   exact ⟨_, _, _, _, _, rfl, fun _ => rfl⟩
  ·
   rw [if_neg h3, if_neg h3, if_neg h3]
   exact ⟨_, _, _, _, _, rfl, fun e => absurd e h3⟩
theorem ronec_tells {t : T} (ht : t.length ≤ 600) (h59 : (59 : UInt8) ∉ t) {k : Nat} (hk : 42001 ≤ k) : TellsC (r09_one.f k (mk t)) (oneC t) := by
 obtain ⟨k, rfl⟩ : ∃ m, k = m + 1 := ⟨k - 1, by omega⟩
 unfold r09_one.f
 rw [mk_toList]
 by_cases h : t = [45]
 ·
  rw [if_pos h, h]
  exact ⟨_, _, _, _, _, rfl, fun e => absurd e (by decide)⟩
 ·
  rw [if_neg h]
  have hj := ronec_j0 ht h59 h (k := k) (by omega)
  cases t with
  | nil =>
   rw [if_pos (show ((mk []).size : Int) = 0 from rfl)]
   exact hj
  | cons c r =>
   have es : ((mk (c :: r)).size : Int) = (r.length : Int) + 1 := by rw [mk_size, List.length_cons]; omega
   have hb : bt (mk (c :: r)) 0 = (c.toNat : Int) := bt_mk (l := c :: r) (i := 0) (by simp)
   have hd : ((c.toNat : Int) != 33) = decide ((c :: r).head? ≠ some 33) := by
    by_cases hc : c = 33
    ·
     subst hc
     rfl
    ·
     have : c.toNat ≠ 33 := fun e => hc (UInt8.toNat_inj.mp e)
     rw [decide_eq_true (by simpa using hc)]
     simp only [bne_iff_ne, ne_eq]
     omega
   rw [if_neg (by omega), if_pos (by omega), hb, hd]
   exact hj
theorem rchs_l0 {L : List T} (hL : ∀ p ∈ L, p.length ≤ 600 ∧ (59 : UInt8) ∉ p) (hn : L.length ≤ 1000) (d : Nat) : ∀ (i k : Nat) (acc : List Ch), i + d = L.length → d + 43000 < k → acc.length ≤ i → (∀ c ∈ acc, c.f0.f1.size ≤ 600) →
 r09_Parse.l0 k acc (L.map mk) (i : Int) = some (chsP (L.drop i) acc) := by
 induction d with
 | zero =>
  intro i k acc hi hk ha hz
  obtain ⟨k, rfl⟩ := succ_of (show 0 < k by omega)
  have hs : ShR (acc.map (·.f0)) := fun x hx => by
   obtain ⟨c, hc, rfl⟩ := List.mem_map.1 hx
   have := hz c hc
   omega
  simp only [r09_Parse.l0]
  rw [List.length_map, if_neg (by omega), List.drop_of_length_le (by omega), rcright_eq hs (by omega) (by omega), Option.bind_some, chsP]
  split
  ·
   rfl
  ·
   rfl
 | succ d ih =>
  intro i k acc hi hk ha hz
  obtain ⟨k, rfl⟩ := succ_of (show 0 < k by omega)
  have hlt : i < L.length := by omega
  obtain ⟨hp, hq⟩ := hL _ (List.getElem_mem hlt)
  obtain ⟨w, g, v, o, d2, e1, f1⟩ := ronec_tells hp hq (k := k) (by omega)
  simp only [r09_Parse.l0]
  rw [List.length_map, if_pos (by omega), if_pos (by omega), rdm hlt, e1, drop_at hlt, chsP, w64s (by omega)]
  simp only [Option.bind_some]
  by_cases h : (oneC L[i]).2 = 0
  ·
   rw [if_pos h, if_pos h, if_pos (by omega), f1 h]
   refine ih (i + 1) k _ (by omega) (by omega) (by rw [List.length_append, List.length_singleton]; omega) fun c hc => ?_
   rcases List.mem_append.1 hc with hc | hc
   ·
    exact hz c hc
   ·
    rw [List.mem_singleton.1 hc]
    exact (oneC_back h hp).2.2
  ·
   rw [if_neg h, if_neg h]
theorem rcparse_eq {s : T} (hs : s.length ≤ 600) {k : Nat} (hk : 45000 ≤ k) : r09_Parse.f k (mk s) = some (parseC s) := by
 unfold r09_Parse.f parseC
 rw [mk_toList]
 by_cases h : s = [45]
 ·
  rw [if_pos h, if_pos h]
 ·
  have hl := spl_len 59 s
  have := rchs_l0 (L := spl 59 s) (fun p hp => ⟨by have := spl_short 59 s p hp; omega, spl_out 59 s p hp⟩) (by omega) (spl 59 s).length 0 k [] (by omega) (by omega) (by simp) (fun c hc => by simp at hc)
  rw [if_neg h, if_neg h, show (59 : Int) = ((59 : UInt8).toNat : Int) from rfl, rsplit_eq 59 (by omega) k (by omega), Option.bind_some]
  exact this
end Go.Proofs.YtgcbejidponoaaaGreatDoor.Pure
end
section
namespace Go.Proofs.YtgcbejidponoaaaGreatDoor.Pure
open Go.RowKit Go.Proofs.YtgcbejidponoaaaGreatDoor.X Go.Proofs.YtgcbejidponoaaaGreatDoorW.PrintWords Go.Proofs.YtgcbejidponoaaaGreatDoorW.PrintLast Go.Proofs.YtgcbejidponoaaaGreatDoorW.PrintMore Go.Proofs.YtgcbejidponoaaaGreatDoor.Aid Go.Proofs.YtgcbejidponoaaaGreatDoor.Bytes
theorem ch_ne (x y : Ch) : (((!(x.f0.f0 == y.f0.f0) || (!(x.f0.f1.toList == y.f0.f1.toList) || (!(x.f0.f2.f0 == y.f0.f2.f0) || !(x.f0.f2.f1 == y.f0.f2.f1)))) || !(x.f1 == y.f1)) = true) ↔ x ≠ y := by
 rw [Bool.or_eq_true, rw_ne, Bool.not_eq_true', beq_eq_false_iff_ne]
 obtain ⟨a, p⟩ := x
 obtain ⟨b, q⟩ := y
 simp only [ne_eq, S48.mk.injEq]
 by_cases h1 : a = b <;> by_cases h2 : p = q <;> simp [h1, h2]
noncomputable instance : DecidableEq Ch := Classical.typeDecidableEq _
theorem sameC_l0 {a b : List Ch} (hn : a.length < 100000) (he : a.length = b.length) (d : Nat) : ∀ (i k : Nat), i + d = a.length → d < k →
 r09_Same.l0 k a b (i : Int) = some (decide (a.drop i = b.drop i)) ∧ api_Change.l0 k a b (a.length : Int) (i : Int) = some (decide (a.drop i = b.drop i)) := by
 induction d with
 | zero =>
  intro i k hi hk
  obtain ⟨k, rfl⟩ := succ_of hk
  simp only [r09_Same.l0, api_Change.l0]
  rw [if_neg (by omega), if_neg (by omega), List.drop_of_length_le (by omega), List.drop_of_length_le (by omega)]
  simp
 | succ d ih =>
  intro i k hi hk
  obtain ⟨k, rfl⟩ := succ_of hk
  have hlt : i < a.length := by omega
  have hlb : i < b.length := by omega
  obtain ⟨i1, i2⟩ := ih (i + 1) k (by omega) (by omega)
  rw [drop_at hlt, drop_at hlb]
  have c1 : (i : Int) < (a.length : Int) := by omega
  have c2 : (i : Int) < (b.length : Int) := by omega
  have c0 : 0 ≤ (i : Int) := by omega
  by_cases h : a[i] = b[i]
  ·
   have hc := mt (ch_ne a[i] b[i]).mp (fun hne => hne h)
   have e : decide (a[i] :: a.drop (i + 1) = b[i] :: b.drop (i + 1)) = decide (a.drop (i + 1) = b.drop (i + 1)) := decide_eq_decide.mpr ⟨fun e => (List.cons.inj e).2, fun e => by rw [e, h]⟩
   rw [e]
   refine ⟨?_, ?_⟩
   ·
    simp only [r09_Same.l0]
    rw [if_pos c1, if_pos c0, if_pos c2, rdC hlt, rdC hlb, if_neg hc, w64s (by omega), i1]
   ·
    simp only [api_Change.l0]
    rw [if_pos c1, if_pos c0, if_pos c1, if_pos c2, rdC hlt, rdC hlb, if_neg hc, w64s (by omega), i2]
  ·
   have hc := (ch_ne a[i] b[i]).mpr h
   have e : decide (a[i] :: a.drop (i + 1) = b[i] :: b.drop (i + 1)) = false := decide_eq_false (fun e => h (List.cons.inj e).1)
   rw [e]
   refine ⟨?_, ?_⟩
   ·
    simp only [r09_Same.l0]
    rw [if_pos c1, if_pos c0, if_pos c2, rdC hlt, rdC hlb, if_pos hc]
   ·
    simp only [api_Change.l0]
    rw [if_pos c1, if_pos c0, if_pos c1, if_pos c2, rdC hlt, rdC hlb, if_pos hc]
theorem sameC_eq {a b : List Ch} (hn : a.length < 100000) {k : Nat} (hk : a.length < k) : r09_Same.f k a b = some (decide (a = b)) ∧ diff_Same.f k a b = some (decide (a = b)) := by
 unfold r09_Same.f diff_Same.f api_Change.f
 by_cases h : a.length = b.length
 ·
  have := sameC_l0 hn h a.length 0 k (by omega) hk
  rw [if_pos (by omega), if_pos (by omega)]
  refine ⟨this.1, ?_⟩
  have h2 := this.2
  rw [List.drop_zero, List.drop_zero] at h2
  rw [show (0 : Int) = ((0 : Nat) : Int) from rfl, h2]
  rfl
 ·
  have e : decide (a = b) = false := decide_eq_false (fun e => h (by rw [e]))
  rw [if_neg (by omega), if_neg (by omega), e]
  exact ⟨rfl, rfl⟩
end Go.Proofs.YtgcbejidponoaaaGreatDoor.Pure
end
section
namespace Go.Proofs.YtgcbejidponoaaaGreatDoor.Pure
open Go.RowKit Go.Proofs.YtgcbejidponoaaaGreatDoor.X Go.Proofs.YtgcbejidponoaaaGreatDoorW.PrintWords Go.Proofs.YtgcbejidponoaaaGreatDoorW.PrintLast Go.Proofs.YtgcbejidponoaaaGreatDoorW.PrintMore Go.Proofs.YtgcbejidponoaaaGreatDoor.Aid Go.Proofs.YtgcbejidponoaaaGreatDoor.Bytes
theorem alive_eq (k : Nat) (hk : 100 ≤ k) : w09_alive.f k = some true :=
 at_rounds (g := fun k => w09_alive.f k) w09_alive.mono hk (by decide +kernel)
end Go.Proofs.YtgcbejidponoaaaGreatDoor.Pure
end
section
namespace Go.Proofs.YtgcbejidponoaaaGreatDoor.Pure
open Go.RowKit Go.Proofs.YtgcbejidponoaaaGreatDoor.X Go.Proofs.YtgcbejidponoaaaGreatDoorW.PrintWords Go.Proofs.YtgcbejidponoaaaGreatDoorW.PrintLast Go.Proofs.YtgcbejidponoaaaGreatDoorW.PrintMore Go.Proofs.YtgcbejidponoaaaGreatDoor.Aid Go.Proofs.YtgcbejidponoaaaGreatDoor.Bytes
theorem DiffParses : w09_DiffParses.Pure := by
 intro a _
 obtain ⟨s, rfl⟩ := str_mk a
 obtain ⟨K, hK⟩ : ∃ K : Nat, 50000 ≤ K := ⟨_, Nat.le_refl _⟩
 refine ⟨K, ?_⟩
 unfold w09_DiffParses.f
 rw [alive_eq _ (by omega), Option.bind_some, if_pos rfl, mk_size]
 by_cases h : (s.length : Int) > 500
 ·
  rw [if_pos h]
 ·
  have hs : s.length ≤ 600 := by omega
  have hl := parse_len s
  rw [if_neg h, cparse_eq hs (by omega), Option.bind_some, rcparse_eq hs (by omega), Option.bind_some, (sameC_eq (by omega) (by omega)).1, Option.bind_some, if_pos (by simp), if_pos rfl]
  by_cases h2 : (parseC s).2 = 0
  ·
   obtain ⟨e, g⟩ := parse_text hs h2
   rw [if_pos h2, ctext_eq g (by omega), Option.bind_some, e, mk_toList]
   simp
  ·
   rw [if_neg h2]
end Go.Proofs.YtgcbejidponoaaaGreatDoor.Pure
end
