/- Plain facts on what the printed functions compute, joined; each says its conditions. -/
import Derived.Test.YteckidchnicjeaaGreatDoorM14
import Derived.Test.YteckidchnicjeaaGreatDoorM8
import Derived.Test.YteckidchnicjeaaGreatDoorM11
import Derived.Test.YteckidchnicjeaaGreatDoorM12
import Derived.Test.YteckidchnicjeaaGreatDoorM5
import Derived.Test.YteckidchnicjeaaGreatDoorM7
import Derived.Test.YteckidchnicjeaaGreatDoorM9
import Derived.Test.YteckidchnicjeaaGreatDoorM13
section
namespace Go.Proofs.YteckidchnicjeaaGreatDoor.Pure
open Go.RowKit Go.Proofs.YteckidchnicjeaaGreatDoor.X Go.Proofs.YteckidchnicjeaaGreatDoorW.PrintWords Go.Proofs.YteckidchnicjeaaGreatDoorW.PrintLast Go.Proofs.YteckidchnicjeaaGreatDoorW.PrintMore Go.Proofs.YteckidchnicjeaaGreatDoor.Aid Go.Proofs.YteckidchnicjeaaGreatDoor.Bytes Go.Proofs.YteckidchnicjeaaGreatDoor.Decs
theorem cutp_eq (l : T) : strings_CutPrefix.f (mk l) (⟨#[33]⟩ : ByteArray) = some (mk (if l.head? = some 33 then l.drop 1 else l), decide (l.head? = some 33)) := by
 unfold strings_CutPrefix.f stringslite_CutPrefix.f stringslite_HasPrefix.f
 have e1 : ((⟨#[33]⟩ : ByteArray).size : Int) = 1 := rfl
 rw [e1]
 cases l with
 | nil => rfl
 | cons c r =>
  have es : ((mk (c :: r)).size : Int) = (r.length : Int) + 1 := by rw [mk_size, List.length_cons]; omega
  have ei : ((1 : Int)).toNat = 1 := rfl
  have et : (⟨#[33]⟩ : ByteArray).toList = [33] := mk_toList [33]
  rw [es, if_pos (by omega), if_pos (by omega), if_pos (by omega), ei, mk_upto, mk_toList, et, Option.bind_some]
  by_cases h : c = 33
  ·
   subst h
   rw [if_pos (by rfl), if_pos (by omega), if_pos (by omega), mk_from]
   rfl
  ·
   rw [if_neg (by simpa using h)]
   simp [h]
def zC : Ch := ⟨zR, false⟩
def leafC (t : T) : Ch × Int :=
 match spl 124 t with
 | [a, b] => if (readS a).2 = 0 then (if grp b = 0 then (⟨⟨(readS a).1, mk b, ⟨0, false⟩⟩, true⟩, 0) else (zC, grp b)) else (zC, (readS a).2)
 | _ => (zC, 2)
theorem leafC_2 {t a b : T} (h : spl 124 t = [a, b]) : leafC t = if (readS a).2 = 0 then (if grp b = 0 then (⟨⟨(readS a).1, mk b, ⟨0, false⟩⟩, true⟩, 0) else (zC, grp b)) else (zC, (readS a).2) := by
 unfold leafC
 rw [h]
theorem leafC_o {t : T} (h : (spl 124 t).length ≠ 2) : leafC t = (zC, 2) := by
 unfold leafC
 match hs : spl 124 t, h with
 | [], _ => rfl
 | [a], _ => rfl
 | [a, b], h => exact absurd rfl h
 | a :: b :: c :: L, _ => rfl
def TellsC (x : Option (Int × ByteArray × Int × Bool × Bool × Int)) (y : Ch × Int) : Prop := ∃ (w : Int) (g : ByteArray) (v : Int) (o d : Bool), x = some (w, g, v, o, d, y.2) ∧ (y.2 = 0 → (⟨⟨w, g, ⟨v, o⟩⟩, d⟩ : Ch) = y.1)
theorem two_ {L : List T} (h : L.length = 2) : ∃ a b, L = [a, b] := by
 match L, h with
 | [a, b], _ => exact ⟨a, b, rfl⟩
theorem q0 (a b : T) : rdOf ByteArray.empty ([a, b].map mk) 0 = mk a := rfl
theorem q1 (a b : T) : rdOf ByteArray.empty ([a, b].map mk) 1 = mk b := rfl
theorem leaf_tells {t : T} (ht : t.length ≤ 600) {k : Nat} (hk : 30000 ≤ k) : TellsC (diff_leaves.f k (mk t)) (leafC t) := by
 unfold diff_leaves.f
 rw [show (124 : Int) = ((124 : UInt8).toNat : Int) from rfl, split_eq 124 (by omega) k (by omega), Option.bind_some]
 by_cases h : (spl 124 t).length = 2
 ·
  obtain ⟨a, b, hs⟩ := two_ h
  have sa := spl_short 124 t a (by rw [hs]; simp)
  have sb := spl_short 124 t b (by rw [hs]; simp)
  obtain ⟨g1, g2⟩ := parseG_sh (s := b) (by omega)
  rw [hs, leafC_2 hs, if_pos (by simp), if_pos (by simp), if_pos (by simp), q0, q1, read_eq (by omega), Option.bind_some]
  by_cases h1 : (readS a).2 = 0
  ·
   rw [if_pos h1, if_pos h1, parse_eq (by omega) hk, Option.bind_some]
   unfold grp
   by_cases h2 : (parseG b).2 = 0
   ·
    rw [if_pos h2, if_pos h2, ttext_eq g1 (by omega) (by omega), Option.bind_some, mk_toList, mk_toList]
    by_cases h3 : tagsT (parseG b).1 = b
    ·
     rw [if_pos h3, if_pos h3, if_pos rfl, h2]
     exact ⟨_, _, _, _, _, rfl, fun _ => rfl⟩
    ·
     rw [if_neg h3, if_neg h3, if_neg (by decide)]
     exact ⟨_, _, _, _, _, rfl, fun e => absurd e (by decide)⟩
   ·
    rw [if_neg h2, if_neg h2, if_neg h2]
    exact ⟨_, _, _, _, _, rfl, fun e => absurd e h2⟩
  ·
   rw [if_neg h1, if_neg h1]
   exact ⟨_, _, _, _, _, rfl, fun e => absurd e h1⟩
 ·
  rw [leafC_o h, if_neg (by rw [List.length_map]; omega)]
  exact ⟨_, _, _, _, _, rfl, fun e => absurd e (by decide)⟩
def oneC (t : T) : Ch × Int := if t.head? = some 33 then leafC (t.drop 1) else if t = [45] then (zC, 2) else if (oneR t).2 = 0 then (newC (oneR t).1, 0) else (zC, (oneR t).2)
theorem onec_tells {t : T} (ht : t.length ≤ 600) (h59 : (59 : UInt8) ∉ t) {k : Nat} (hk : 42000 ≤ k) : TellsC (diff_one.f k (mk t)) (oneC t) := by
 unfold diff_one.f oneC
 rw [cutp_eq, Option.bind_some]
 by_cases h : t.head? = some 33
 ·
  rw [decide_eq_true h, if_pos rfl, if_pos h, if_pos h]
  obtain ⟨w, g, v, o, d, e, f⟩ := leaf_tells (t := t.drop 1) (by rw [List.length_drop]; omega) (k := k) (by omega)
  rw [e, Option.bind_some]
  exact ⟨w, g, v, o, d, rfl, f⟩
 ·
  rw [decide_eq_false h, if_neg Bool.false_ne_true, if_neg h, (rows_parse ht (by omega)).1, Option.bind_some]
  by_cases h2 : t = [45]
  ·
   rw [if_pos h2]
   unfold parseR
   rw [if_pos h2]
   exact ⟨_, _, _, _, _, rfl, fun e => absurd e (by decide)⟩
  ·
   rw [if_neg h2, parseR_one h2 h59]
   by_cases h3 : (oneR t).2 = 0
   ·
    rw [if_pos h3, if_pos h3]
    exact ⟨_, _, _, _, _, rfl, fun _ => rfl⟩
   ·
    rw [if_neg h3, if_neg h3, if_neg h3]
    exact ⟨_, _, _, _, _, rfl, fun e => absurd e h3⟩
theorem oneC_back {t : T} (h : (oneC t).2 = 0) (ht : t.length ≤ 600) : chT (oneC t).1 = t ∧ GRow (oneC t).1.f0 ∧ (oneC t).1.f0.f1.size ≤ 600 := by
 unfold oneC at h ⊢
 by_cases h0 : t.head? = some 33
 ·
  rw [if_pos h0] at h ⊢
  obtain ⟨r, rfl⟩ : ∃ r, t = 33 :: r := by
   cases t with
   | nil => cases h0
   | cons c r => injection h0 with h0; exact ⟨r, by rw [h0]⟩
  rw [show (33 :: r : T).drop 1 = r from rfl] at h ⊢
  rw [List.length_cons] at ht
  by_cases hl : (spl 124 r).length = 2
  ·
   obtain ⟨a, b, hs⟩ := two_ hl
   have sb := spl_short 124 r b (by rw [hs]; simp)
   rw [leafC_2 hs] at h ⊢
   by_cases h1 : (readS a).2 = 0
   ·
    rw [if_pos h1] at h ⊢
    by_cases h2 : grp b = 0
    ·
     rw [if_pos h2]
     obtain ⟨i1, e1⟩ := read_back h1
     have hj := join_spl 124 r
     rw [hs] at hj
     have hz : (mk b).size ≤ 600 := by rw [mk_size]; omega
     refine ⟨?_, ⟨i1, by show (mk b).size ≤ 1000; omega, (show I64 0 from ⟨by decide, by decide⟩)⟩, hz⟩
     unfold chT
     rw [if_pos rfl]
     show [33] ++ (Lib.itoa (readS a).1 ++ [124] ++ bl (mk b)) = 33 :: r
     rw [e1, show bl (mk b) = b from mk_data b]
     conv => rhs; rw [← hj]
     simp [Lib.join_cons, Lib.joinTail]
    ·
     rw [if_neg h2] at h
     exact absurd h h2
   ·
    rw [if_neg h1] at h
    exact absurd h h1
  ·
   rw [leafC_o hl] at h
   exact absurd h (by decide)
 ·
  rw [if_neg h0] at h ⊢
  by_cases h2 : t = [45]
  ·
   rw [if_pos h2] at h
   exact absurd h (by decide)
  ·
   rw [if_neg h2] at h ⊢
   by_cases h3 : (oneR t).2 = 0
   ·
    rw [if_pos h3]
    obtain ⟨e, g⟩ := oneR_back h3 ht
    exact ⟨e, g, oneR_sz h3 ht⟩
   ·
    rw [if_neg h3] at h
    exact absurd h h3
def chsP : List T → List Ch → List Ch × Int
 | [], acc => if rightC acc = true then (acc, 0) else ([], 9)
 | t :: L, acc => if (oneC t).2 = 0 then chsP L (acc ++ [(oneC t).1]) else ([], (oneC t).2)
def parseC (s : T) : List Ch × Int := if s = [45] then ([], 0) else chsP (spl 59 s) []
theorem chs_l0 {L : List T} (hL : ∀ p ∈ L, p.length ≤ 600 ∧ (59 : UInt8) ∉ p) (hn : L.length ≤ 1000) (d : Nat) : ∀ (i k : Nat) (acc : List Ch), i + d = L.length → d + 43000 < k → acc.length ≤ i → (∀ c ∈ acc, c.f0.f1.size ≤ 600) →
 diff_Parse.l0 k acc (L.map mk) (L.length : Int) (i : Int) = some (chsP (L.drop i) acc) := by
 induction d with
 | zero =>
  intro i k acc hi hk ha hz
  obtain ⟨k, rfl⟩ := succ_of (show 0 < k by omega)
  have hs : ShR (acc.map (·.f0)) := fun x hx => by
   obtain ⟨c, hc, rfl⟩ := List.mem_map.1 hx
   have := hz c hc
   omega
  simp only [diff_Parse.l0]
  rw [if_neg (by omega), List.drop_of_length_le (by omega), cright_eq hs (by omega) (by omega), Option.bind_some, chsP]
  split
  ·
   rfl
  ·
   rfl
 | succ d ih =>
  intro i k acc hi hk ha hz
  obtain ⟨k, rfl⟩ := succ_of (show 0 < k by omega)
  have hlt : i < L.length := by omega
  obtain ⟨hp, hq⟩ := hL _ (List.getElem_mem hlt)
  obtain ⟨w, g, v, o, d2, e1, f1⟩ := onec_tells hp hq (k := k) (by omega)
  simp only [diff_Parse.l0]
  rw [List.length_map, if_pos (by omega), if_pos (by omega), if_pos (by omega), rdm hlt, e1, drop_at hlt, chsP, w64s (by omega)]
  simp only [Option.bind_some]
  by_cases h : (oneC L[i]).2 = 0
  ·
   rw [if_pos h, if_pos h, if_pos (by omega), f1 h]
   refine ih (i + 1) k _ (by omega) (by omega) (by rw [List.length_append, List.length_singleton]; omega) fun c hc => ?_
   rcases List.mem_append.1 hc with hc | hc
   ·
    exact hz c hc
   ·
    rw [List.mem_singleton.1 hc]
    exact (oneC_back h hp).2.2
  ·
   rw [if_neg h, if_neg h]
theorem cparse_eq {s : T} (hs : s.length ≤ 600) {k : Nat} (hk : 45000 ≤ k) : diff_Parse.f k (mk s) = some (parseC s) := by
 unfold diff_Parse.f parseC
 rw [mk_toList]
 by_cases h : s = [45]
 ·
  rw [if_pos h, if_pos h]
 ·
  have hl := spl_len 59 s
  have := chs_l0 (L := spl 59 s) (fun p hp => ⟨by have := spl_short 59 s p hp; omega, spl_out 59 s p hp⟩) (by omega) (spl 59 s).length 0 k [] (by omega) (by omega) (by simp) (fun c hc => by simp at hc)
  rw [if_neg h, if_neg h, show (59 : Int) = ((59 : UInt8).toNat : Int) from rfl, split_eq 59 (by omega) k (by omega), Option.bind_some, List.length_map]
  exact this
theorem parse_len (s : T) : (parseC s).1.length ≤ s.length + 1 := by
 have hh : ∀ (L : List T) (acc : List Ch), (chsP L acc).1.length ≤ acc.length + L.length := by
  intro L
  induction L with
  | nil =>
   intro acc
   rw [chsP]
   split
   ·
    simp
   ·
    simp
  | cons t L ih =>
   intro acc
   rw [chsP]
   split
   ·
    have := ih (acc ++ [(oneC t).1])
    rw [List.length_append, List.length_singleton] at this
    rw [List.length_cons]
    omega
   ·
    simp
 unfold parseC
 split
 ·
  simp
 ·
  have := hh (spl 59 s) []
  have := spl_len 59 s
  rw [List.length_nil] at *
  omega
end Go.Proofs.YteckidchnicjeaaGreatDoor.Pure
end
section
namespace Go.Proofs.YteckidchnicjeaaGreatDoor.Pure
open Go.RowKit Go.Proofs.YteckidchnicjeaaGreatDoor.X Go.Proofs.YteckidchnicjeaaGreatDoorW.PrintWords Go.Proofs.YteckidchnicjeaaGreatDoorW.PrintLast Go.Proofs.YteckidchnicjeaaGreatDoorW.PrintMore Go.Proofs.YteckidchnicjeaaGreatDoor.Aid Go.Proofs.YteckidchnicjeaaGreatDoor.Bytes
theorem rcright_l0 {l : List Ch} (hs : ShR (l.map (·.f0))) (hl : l.length ≤ 1000) (d : Nat) : ∀ (i k : Nat), i + d = l.length → d + 36000 < k → (∀ c ∈ l.take i, bare c = true) →
 r09_Right.l0 k l ((l.take i).map (·.f0)) (i : Int) = some (rightC l) := by
 induction d with
 | zero =>
  intro i k hi hk hb
  obtain ⟨k, rfl⟩ := succ_of hk
  have ht : l.take i = l := List.take_of_length_le (by omega)
  rw [ht] at hb ⊢
  simp only [r09_Right.l0]
  rw [if_neg (by omega), (right_eq hs (by rw [List.length_map]; exact hl) (by omega)).2, Option.bind_some]
  unfold rightC
  rw [List.all_eq_true.2 hb, Bool.true_and]
 | succ d ih =>
  intro i k hi hk hb
  obtain ⟨k, rfl⟩ := succ_of hk
  have hlt : i < l.length := by omega
  have h0 : (l.take (i + 1)).map (·.f0) = (l.take i).map (·.f0) ++ [l[i].f0] := by rw [take_at hlt, List.map_append]; rfl
  have hlen : ((l.take i).map (·.f0)).length < 3518437208883 := by rw [List.length_map, List.length_take]; omega
  simp only [r09_Right.l0]
  rw [if_pos (by omega), if_pos (by omega), rdC hlt, w64s (by omega)]
  have hnext : bare l[i] = true → r09_Right.l0 k l ((l.take i).map (·.f0) ++ [l[i].f0]) ((i + 1 : Nat) : Int) = some (rightC l) := fun hbi => by
   rw [← h0]
   refine ih (i + 1) k (by omega) (by omega) fun c hc => ?_
   rw [take_at hlt, List.mem_append, List.mem_singleton] at hc
   rcases hc with hc | rfl
   ·
    exact hb c hc
   ·
    exact hbi
  by_cases hg : l[i].f1 = true
  ·
   rw [if_pos hg]
   have hv : (!(l[i].f0.f2.f0 == 0) || l[i].f0.f2.f1) = !bare l[i] := by
    unfold bare
    rw [hg]
    cases l[i].f0.f2.f1 <;> simp
   rw [hv]
   by_cases hbi : bare l[i] = true
   ·
    rw [hbi, if_neg (by decide), if_pos hlen]
    exact hnext hbi
   ·
    rw [Bool.eq_false_iff.2 hbi, if_pos (show (!false) = true from rfl)]
    unfold rightC
    have : l.all bare = false := by
     rw [Bool.eq_false_iff]
     intro h
     exact hbi (List.all_eq_true.1 h _ (List.getElem_mem hlt))
    rw [this, Bool.false_and]
  ·
   rw [if_neg hg, if_pos hlen]
   exact hnext (by unfold bare; rw [Bool.eq_false_iff.2 hg]; rfl)
theorem rcright_eq {l : List Ch} (hs : ShR (l.map (·.f0))) (hl : l.length ≤ 1000) {k : Nat} (hk : 37100 ≤ k) : r09_Right.f k l = some (rightC l) :=
 rcright_l0 hs hl l.length 0 k (by omega) (by omega) (fun c hc => by simp at hc)
end Go.Proofs.YteckidchnicjeaaGreatDoor.Pure
end
section
namespace Go.Proofs.YteckidchnicjeaaGreatDoor.Pure
open Go.RowKit Go.Proofs.YteckidchnicjeaaGreatDoor.X Go.Proofs.YteckidchnicjeaaGreatDoorW.PrintWords Go.Proofs.YteckidchnicjeaaGreatDoorW.PrintLast Go.Proofs.YteckidchnicjeaaGreatDoorW.PrintMore Go.Proofs.YteckidchnicjeaaGreatDoor.Aid Go.Proofs.YteckidchnicjeaaGreatDoor.Bytes Go.Proofs.YteckidchnicjeaaGreatDoor.Decs
theorem ronec_j0 {t : T} (ht : t.length ≤ 600) (h59 : (59 : UInt8) ∉ t) (h45 : t ≠ [45]) {k : Nat} (hk : 42000 ≤ k) : TellsC (r09_one.j0 (k + 1) (mk t) (decide (t.head? ≠ some 33))) (oneC t) := by
 rw [r09_one.j0]
 unfold oneC
 by_cases h : t.head? = some 33
 ·
  obtain ⟨r, rfl⟩ : ∃ r, t = 33 :: r := by
   cases t with
   | nil => cases h
   | cons c r => injection h with h; exact ⟨r, by rw [h]⟩
  rw [List.length_cons] at ht
  have ex : (mk (33 :: r)).extract 1 (mk (33 :: r)).size = mk r := mk_from (33 :: r) 1
  rw [if_neg (by simp), if_pos h, if_pos (by rw [mk_size, List.length_cons]; omega), ex, show (33 :: r : T).drop 1 = r from rfl, show (124 : Int) = ((124 : UInt8).toNat : Int) from rfl, rsplit_eq 124 (by omega) k (by omega), Option.bind_some]
  by_cases hl : (spl 124 r).length = 2
  ·
   obtain ⟨a, b, hs⟩ := two_ hl
   have sa := spl_short 124 r a (by rw [hs]; simp)
   have sb := spl_short 124 r b (by rw [hs]; simp)
   obtain ⟨g1, g2⟩ := parseG_sh (s := b) (by omega)
   rw [hs, leafC_2 hs, if_pos (by simp), if_pos (by simp), q0, q1, rread_eq (by omega) (by omega), Option.bind_some]
   by_cases h1 : (readS a).2 = 0
   ·
    rw [if_pos h1, if_pos h1, if_pos (by simp), rparse_eq (by omega) (by omega), Option.bind_some]
    unfold grp
    by_cases h2 : (parseG b).2 = 0
    ·
     rw [if_pos h2, if_pos h2, rttext_eq g1 (by omega) (by omega), Option.bind_some, mk_toList, mk_toList]
     by_cases h3 : tagsT (parseG b).1 = b
     ·
      rw [if_pos h3, if_pos h3, if_pos rfl]
      exact ⟨_, _, _, _, _, rfl, fun _ => rfl⟩
     ·
      rw [if_neg h3, if_neg h3, if_neg (by decide)]
      exact ⟨_, _, _, _, _, rfl, fun e => absurd e (by decide)⟩
    ·
     rw [if_neg h2, if_neg h2, if_neg h2]
     exact ⟨_, _, _, _, _, rfl, fun e => absurd e h2⟩
   ·
    rw [if_neg h1, if_neg h1]
    exact ⟨_, _, _, _, _, rfl, fun e => absurd e h1⟩
  ·
   rw [leafC_o hl, if_neg (by rw [List.length_map]; omega)]
   exact ⟨_, _, _, _, _, rfl, fun e => absurd e (by decide)⟩
 ·
  rw [if_pos (decide_eq_true h), if_neg h, if_neg h45, (rows_parse ht (by omega)).2, Option.bind_some, parseR_one h45 h59]
  by_cases h3 : (oneR t).2 = 0
  ·
   rw [if_pos h3, if_pos h3, if_pos rfl, if_pos (by simp)]
   exact ⟨_, _, _, _, _, rfl, fun _ => rfl⟩
  ·
   rw [if_neg h3, if_neg h3, if_neg h3]
   exact ⟨_, _, _, _, _, rfl, fun e => absurd e h3⟩
theorem ronec_tells {t : T} (ht : t.length ≤ 600) (h59 : (59 : UInt8) ∉ t) {k : Nat} (hk : 42001 ≤ k) : TellsC (r09_one.f k (mk t)) (oneC t) := by
 obtain ⟨k, rfl⟩ : ∃ m, k = m + 1 := ⟨k - 1, by omega⟩
 unfold r09_one.f
 rw [mk_toList]
 by_cases h : t = [45]
 ·
  rw [if_pos h, h]
  exact ⟨_, _, _, _, _, rfl, fun e => absurd e (by decide)⟩
 ·
  rw [if_neg h]
  have hj := ronec_j0 ht h59 h (k := k) (by omega)
  cases t with
  | nil =>
   rw [if_pos (show ((mk []).size : Int) = 0 from rfl)]
   exact hj
  | cons c r =>
   have es : ((mk (c :: r)).size : Int) = (r.length : Int) + 1 := by rw [mk_size, List.length_cons]; omega
   have hb : bt (mk (c :: r)) 0 = (c.toNat : Int) := bt_mk (l := c :: r) (i := 0) (by simp)
   have hd : ((c.toNat : Int) != 33) = decide ((c :: r).head? ≠ some 33) := by
    by_cases hc : c = 33
    ·
     subst hc
     rfl
    ·
     have : c.toNat ≠ 33 := fun e => hc (UInt8.toNat_inj.mp e)
     rw [decide_eq_true (by simpa using hc)]
     simp only [bne_iff_ne, ne_eq]
     omega
   rw [if_neg (by omega), if_pos (by omega), hb, hd]
   exact hj
theorem rchs_l0 {L : List T} (hL : ∀ p ∈ L, p.length ≤ 600 ∧ (59 : UInt8) ∉ p) (hn : L.length ≤ 1000) (d : Nat) : ∀ (i k : Nat) (acc : List Ch), i + d = L.length → d + 43000 < k → acc.length ≤ i → (∀ c ∈ acc, c.f0.f1.size ≤ 600) →
 r09_Parse.l0 k acc (L.map mk) (i : Int) = some (chsP (L.drop i) acc) := by
 induction d with
 | zero =>
  intro i k acc hi hk ha hz
  obtain ⟨k, rfl⟩ := succ_of (show 0 < k by omega)
  have hs : ShR (acc.map (·.f0)) := fun x hx => by
   obtain ⟨c, hc, rfl⟩ := List.mem_map.1 hx
   have := hz c hc
   omega
  simp only [r09_Parse.l0]
  rw [List.length_map, if_neg (by omega), List.drop_of_length_le (by omega), rcright_eq hs (by omega) (by omega), Option.bind_some, chsP]
  split
  ·
   rfl
  ·
   rfl
 | succ d ih =>
  intro i k acc hi hk ha hz
  obtain ⟨k, rfl⟩ := succ_of (show 0 < k by omega)
  have hlt : i < L.length := by omega
  obtain ⟨hp, hq⟩ := hL _ (List.getElem_mem hlt)
  obtain ⟨w, g, v, o, d2, e1, f1⟩ := ronec_tells hp hq (k := k) (by omega)
  simp only [r09_Parse.l0]
  rw [List.length_map, if_pos (by omega), if_pos (by omega), rdm hlt, e1, drop_at hlt, chsP, w64s (by omega)]
  simp only [Option.bind_some]
  by_cases h : (oneC L[i]).2 = 0
  ·
   rw [if_pos h, if_pos h, if_pos (by omega), f1 h]
   refine ih (i + 1) k _ (by omega) (by omega) (by rw [List.length_append, List.length_singleton]; omega) fun c hc => ?_
   rcases List.mem_append.1 hc with hc | hc
   ·
    exact hz c hc
   ·
    rw [List.mem_singleton.1 hc]
    exact (oneC_back h hp).2.2
  ·
   rw [if_neg h, if_neg h]
theorem rcparse_eq {s : T} (hs : s.length ≤ 600) {k : Nat} (hk : 45000 ≤ k) : r09_Parse.f k (mk s) = some (parseC s) := by
 unfold r09_Parse.f parseC
 rw [mk_toList]
 by_cases h : s = [45]
 ·
  rw [if_pos h, if_pos h]
 ·
  have hl := spl_len 59 s
  have := rchs_l0 (L := spl 59 s) (fun p hp => ⟨by have := spl_short 59 s p hp; omega, spl_out 59 s p hp⟩) (by omega) (spl 59 s).length 0 k [] (by omega) (by omega) (by simp) (fun c hc => by simp at hc)
  rw [if_neg h, if_neg h, show (59 : Int) = ((59 : UInt8).toNat : Int) from rfl, rsplit_eq 59 (by omega) k (by omega), Option.bind_some]
  exact this
end Go.Proofs.YteckidchnicjeaaGreatDoor.Pure
end
section
namespace Go.Proofs.YteckidchnicjeaaGreatDoor.Pure
open Go.RowKit Go.Proofs.YteckidchnicjeaaGreatDoor.X Go.Proofs.YteckidchnicjeaaGreatDoorW.PrintWords Go.Proofs.YteckidchnicjeaaGreatDoorW.PrintLast Go.Proofs.YteckidchnicjeaaGreatDoorW.PrintMore Go.Proofs.YteckidchnicjeaaGreatDoor.Aid Go.Proofs.YteckidchnicjeaaGreatDoor.Bytes
set_option linter.unusedVariables false
theorem read_no {l : T} (h : ¬ (readS l).2 = 0) : (readS l).1 = 0 := by
 unfold readS at h ⊢
 split at h
 ·
  rename_i c
  rw [if_pos c]
  unfold finS at h ⊢
  split at h
  ·
   rename_i c2
   rw [if_pos c2]
   split at h
   ·
    exact absurd rfl h
   ·
    rename_i c3
    rw [if_neg c3]
  ·
   rename_i c2
   rw [if_neg c2]
   split at h
   ·
    exact absurd rfl h
   ·
    rename_i c3
    rw [if_neg c3]
 ·
  rename_i c
  rw [if_neg c]
theorem g_one (L : List T) (n : Nat) (hn : 0 < n) (x : T) : (reply_words.g (L.map mk) (n : Int) [mk x] 0).isSome = decide (L.length = n + 1 ∧ L.getD 0 [] = x) := by
 unfold reply_words.g
 rw [List.length_map]
 by_cases c : L.length = n + 1
 ·
  have h0 : 0 < L.length := by omega
  have e1 : L.getD 0 [] = L[0] := by rw [List.getD_eq_getElem?_getD, List.getElem?_eq_getElem h0]; rfl
  have r1 : rdOf ByteArray.empty (L.map mk) 0 = mk L[0] := rds (L := L) (i := 0) h0
  rw [if_pos (by omega), r1, mk_toList, mk_toList, e1]
  by_cases c2 : L[0] = x
  ·
   rw [if_pos c2, decide_eq_true ⟨c, c2⟩]
   rfl
  ·
   rw [if_neg c2, decide_eq_false (fun h => c2 h.2)]
   rfl
 ·
  rw [if_neg (by omega), decide_eq_false (fun h => c h.1)]
  rfl
def stS (l : T) : Int × Int := if (readS l).2 = 0 then (if (readS l).1 < 0 then (0, 3) else ((readS l).1, 0)) else (0, (readS l).2)
theorem rst_eq {l : T} (hl : l.length ≤ 600) {k : Nat} (hk : 1500 ≤ k) : r23_stamp.f k (mk l) = some (stS l) := by
 unfold r23_stamp.f stS
 rw [rread_eq hl hk]
 simp only [Option.bind_some]
 by_cases c : (readS l).2 = 0
 ·
  rw [if_pos c, if_pos c]
  by_cases c2 : (readS l).1 < 0
  ·
   rw [if_pos c2, if_pos c2]
  ·
   rw [if_neg c2, if_neg c2, c]
 ·
  rw [if_neg c, if_neg c, read_no c]
def at_ (L : List T) (i : Nat) : T := L.getD i []
theorem at_rd {L : List T} {i : Nat} (h : i < L.length) : rdOf ByteArray.empty (L.map mk) (i : Int) = mk (at_ L i) := by
 rw [rds h]
 unfold at_
 rw [List.getD_eq_getElem?_getD, List.getElem?_eq_getElem h]
 rfl
theorem at_len {L : List T} {m : Nat} (h : ∀ p ∈ L, p.length ≤ m) (i : Nat) : (at_ L i).length ≤ m := by
 unfold at_
 by_cases c : i < L.length
 ·
  rw [List.getD_eq_getElem?_getD, List.getElem?_eq_getElem c]
  exact h _ (List.getElem_mem c)
 ·
  rw [List.getD_eq_getElem?_getD, List.getElem?_eq_none (by omega)]
  exact Nat.zero_le _
def okW : T := [111, 107]
def rowsW : T := [114, 111, 119, 115]
def imageW : T := [105, 109, 97, 103, 101]
def diffW : T := [100, 105, 102, 102]
def resyncW : T := [114, 101, 115, 121, 110, 99]
def storedS (L : List T) : Int × Int := if L.length = 2 ∧ at_ L 0 = okW then stS (at_ L 1) else (0, 2)
theorem sp_eq {s : T} (hs : s.length ≤ 500) {k : Nat} (hk : 50000 ≤ k) : word_Split.f k (mk s) 32 = some ((spl 32 s).map mk) := by
 have hsp := split_eq 32 (l := s) (by omega) k (by omega)
 rw [show ((32 : UInt8).toNat : Int) = 32 from rfl] at hsp
 exact hsp
theorem rsp_eq {s : T} (hs : s.length ≤ 500) {k : Nat} (hk : 50000 ≤ k) : r02_Split.f k (mk s) 32 = some ((spl 32 s).map mk) := by
 have hsp := rsplit_eq 32 (l := s) (by omega) k (by omega)
 rw [show ((32 : UInt8).toNat : Int) = 32 from rfl] at hsp
 exact hsp
theorem stored_eq {s : T} (hs : s.length ≤ 500) {k : Nat} (hk : 50000 ≤ k) : reply_ReadStored.f k (mk s) = some (storedS (spl 32 s)) := by
 have hp : ∀ p ∈ spl 32 s, p.length ≤ 500 := fun p hp2 => Nat.le_trans (spl_short 32 s p hp2) hs
 unfold reply_ReadStored.f
 rw [sp_eq hs hk]
 simp only [Option.bind_some]
 generalize spl 32 s = L at hp
 have hg := g_one L 1 (by omega) okW
 rw [show ((1 : Nat) : Int) = 1 from rfl] at hg
 have hl1 := at_len hp 1
 rw [show ok_ = mk okW from rfl, hg]
 unfold storedS
 by_cases c : L.length = 2 ∧ at_ L 0 = okW
 ·
  have r1 := at_rd (L := L) (i := 1) (by omega)
  rw [show ((1 : Nat) : Int) = 1 from rfl] at r1
  rw [if_pos (decide_eq_true (show L.length = 1 + 1 ∧ L.getD 0 [] = okW from c)), if_pos c, r1, read_eq (by omega)]
  simp only [Option.bind_some]
  unfold stS
  by_cases c4 : (readS (at_ L 1)).2 = 0
  ·
   rw [if_pos c4, if_pos c4]
   by_cases c5 : (readS (at_ L 1)).1 < 0
   ·
    rw [if_pos c5, if_pos c5]
   ·
    rw [if_neg c5, if_neg c5]
  ·
   rw [if_neg c4, if_neg c4]
 ·
  rw [if_neg (fun h => c (show L.length = 1 + 1 ∧ L.getD 0 [] = okW from of_decide_eq_true h)), if_neg c]
theorem rstored_eq {s : T} (hs : s.length ≤ 500) {k : Nat} (hk : 50000 ≤ k) : r23_ReadStored.f k (mk s) = some (storedS (spl 32 s)) := by
 have hp : ∀ p ∈ spl 32 s, p.length ≤ 500 := fun p hp2 => Nat.le_trans (spl_short 32 s p hp2) hs
 unfold r23_ReadStored.f
 rw [rsp_eq hs hk]
 simp only [Option.bind_some, List.length_map]
 generalize spl 32 s = L at hp
 have hl1 := at_len hp 1
 unfold storedS
 by_cases c : L.length = 2
 ·
  have r0 := at_rd (L := L) (i := 0) (by omega)
  have r1 := at_rd (L := L) (i := 1) (by omega)
  rw [show ((0 : Nat) : Int) = 0 from rfl] at r0
  rw [show ((1 : Nat) : Int) = 1 from rfl] at r1
  rw [if_pos (by omega), if_pos (by omega), r0, mk_toList]
  by_cases c2 : at_ L 0 = okW
  ·
   rw [if_pos (show at_ L 0 = [111, 107] from c2), if_pos (show L.length = 2 ∧ at_ L 0 = okW from ⟨c, c2⟩), if_pos (by omega), r1, rst_eq (by omega) (by omega)]
   rfl
  ·
   rw [if_neg (show ¬ at_ L 0 = [111, 107] from c2), if_neg (show ¬ (L.length = 2 ∧ at_ L 0 = okW) from fun h => c2 h.2)]
 ·
  rw [if_neg (show ¬ (L.length : Int) = 2 by omega), if_neg (show ¬ (L.length = 2 ∧ at_ L 0 = okW) from fun h => c h.1)]
def rowsS (L : List T) : Int × Int × List Rw × Int :=
 if L.length = 3 ∧ at_ L 0 = rowsW then (if (stS (at_ L 1)).2 = 0 then (if (parseR (at_ L 2)).2 = 0 then (0, (stS (at_ L 1)).1, (parseR (at_ L 2)).1, 0) else (0, 0, [], (parseR (at_ L 2)).2)) else (0, 0, [], (stS (at_ L 1)).2)) else (0, 0, [], 2)
theorem rows_read {s : T} (hs : s.length ≤ 500) {k : Nat} (hk : 50000 ≤ k) : reply_ReadRows.f k (mk s) = some (rowsS (spl 32 s)) := by
 have hp : ∀ p ∈ spl 32 s, p.length ≤ 500 := fun p hp2 => Nat.le_trans (spl_short 32 s p hp2) hs
 unfold reply_ReadRows.f
 rw [sp_eq hs hk]
 simp only [Option.bind_some]
 generalize spl 32 s = L at hp
 have hg := g_one L 2 (by omega) rowsW
 rw [show ((2 : Nat) : Int) = 2 from rfl] at hg
 have hl1 := at_len hp 1
 have hl2 := at_len hp 2
 rw [show rows_ = mk rowsW from rfl, hg]
 unfold rowsS
 by_cases c : L.length = 3 ∧ at_ L 0 = rowsW
 ·
  have r1 := at_rd (L := L) (i := 1) (by omega)
  rw [show ((1 : Nat) : Int) = 1 from rfl] at r1
  have r2 := at_rd (L := L) (i := 2) (by omega)
  rw [show ((2 : Nat) : Int) = 2 from rfl] at r2
  rw [if_pos (decide_eq_true (show L.length = 2 + 1 ∧ L.getD 0 [] = rowsW from c)), if_pos c, r1, r2, read_eq (by omega), (rows_parse (s := at_ L 2) (by omega) (by omega)).1]
  simp only [Option.bind_some]
  unfold stS
  by_cases c4 : (readS (at_ L 1)).2 = 0
  ·
   rw [if_pos c4, if_pos c4]
   by_cases c5 : (readS (at_ L 1)).1 < 0
   ·
    rw [if_pos c5, if_pos c5]
    rfl
   ·
    rw [if_neg c5, if_neg c5, if_pos rfl]
    split <;> rfl
  ·
   rw [if_neg c4, if_neg c4, if_neg c4]
 ·
  rw [if_neg (fun h => c (show L.length = 2 + 1 ∧ L.getD 0 [] = rowsW from of_decide_eq_true h)), if_neg c]
theorem rrows_read {s : T} (hs : s.length ≤ 500) {k : Nat} (hk : 50000 ≤ k) : r23_ReadRows.f k (mk s) = some (rowsS (spl 32 s)) := by
 have hp : ∀ p ∈ spl 32 s, p.length ≤ 500 := fun p hp2 => Nat.le_trans (spl_short 32 s p hp2) hs
 obtain ⟨k, rfl⟩ : ∃ n, k = n + 1 := ⟨k - 1, by omega⟩
 unfold r23_ReadRows.f
 rw [rsp_eq hs hk]
 simp only [Option.bind_some, List.length_map]
 generalize spl 32 s = L at hp
 have hl1 := at_len hp 1
 have hl2 := at_len hp 2
 unfold rowsS
 have j0t : r23_ReadRows.j0 (k + 1) (L.map mk) true = some (0, 0, [], 2) := by
  simp only [r23_ReadRows.j0]
  rfl
 by_cases c : L.length = 3
 ·
  have r0 := at_rd (L := L) (i := 0) (by omega)
  have r1 := at_rd (L := L) (i := 1) (by omega)
  have r2 := at_rd (L := L) (i := 2) (by omega)
  rw [show ((0 : Nat) : Int) = 0 from rfl] at r0
  rw [show ((1 : Nat) : Int) = 1 from rfl] at r1
  rw [show ((2 : Nat) : Int) = 2 from rfl] at r2
  rw [if_pos (by omega), if_pos (by omega), r0, mk_toList]
  by_cases c2 : at_ L 0 = rowsW
  ·
   rw [if_pos (show L.length = 3 ∧ at_ L 0 = rowsW from ⟨c, c2⟩), show (at_ L 0 != ([114, 111, 119, 115] : T)) = false from bne_eq_false_iff_eq.2 c2]
   simp only [r23_ReadRows.j0, List.length_map]
   rw [if_neg (by simp), if_pos (by omega), r1, r2, rst_eq (by omega) (by omega)]
   simp only [Option.bind_some]
   by_cases c4 : (stS (at_ L 1)).2 = 0
   ·
    rw [if_pos c4, if_pos c4, if_pos (by omega), (rows_parse (s := at_ L 2) (by omega) (by omega)).2]
    simp only [Option.bind_some]
    split <;> rfl
   ·
    rw [if_neg c4, if_neg c4]
  ·
   rw [if_neg (show ¬ (L.length = 3 ∧ at_ L 0 = rowsW) from fun h => c2 h.2), show (at_ L 0 != ([114, 111, 119, 115] : T)) = true from bne_iff_ne.2 c2, j0t]
 ·
  rw [if_neg (show ¬ (L.length = 3 ∧ at_ L 0 = rowsW) from fun h => c h.1), if_neg (by omega), j0t]
def kindN (x : T) : Int := if x = imageW then 1 else if x = diffW then 2 else if x = resyncW then 3 else 0
theorem rkind_eq (x : T) : r23_kind.f (mk x) = some (kindN x) := by
 unfold r23_kind.f kindN
 rw [mk_toList]
 by_cases c1 : x = imageW
 ·
  rw [if_pos (show x = [105, 109, 97, 103, 101] from c1), if_pos c1]
 ·
  rw [if_neg (show ¬ x = [105, 109, 97, 103, 101] from c1), if_neg c1]
  by_cases c2 : x = diffW
  ·
   rw [if_pos (show x = [100, 105, 102, 102] from c2), if_pos c2]
  ·
   rw [if_neg (show ¬ x = [100, 105, 102, 102] from c2), if_neg c2]
   by_cases c3 : x = resyncW
   ·
    rw [if_pos (show x = [114, 101, 115, 121, 110, 99] from c3), if_pos c3]
   ·
    rw [if_neg (show ¬ x = [114, 101, 115, 121, 110, 99] from c3), if_neg c3]
theorem g_kinds (L : List T) : ∃ ks, reply_kinds.f = some ks ∧ ks.length ≤ 100 ∧ (L.length = 4 → kindN (at_ L 0) ≠ 0 → ∃ i : Nat, reply_words.g (L.map mk) 3 ks 0 = some i ∧ (i : Int) + 1 = kindN (at_ L 0)) ∧ (¬ (L.length = 4 ∧ kindN (at_ L 0) ≠ 0) → reply_words.g (L.map mk) 3 ks 0 = none) := by
 refine ⟨[mk imageW, mk diffW, mk resyncW], rfl, by decide, ?_⟩
 simp only [reply_words.g, List.length_map, mk_toList]
 by_cases c : L.length = 4
 ·
  have r0 := at_rd (L := L) (i := 0) (by omega)
  rw [show ((0 : Nat) : Int) = 0 from rfl] at r0
  have e : (L.length : Int) = 3 + 1 := by omega
  simp only [e, if_true, r0, mk_toList]
  unfold kindN
  by_cases c1 : at_ L 0 = imageW
  ·
   rw [if_pos c1, if_pos c1]
   exact ⟨fun _ _ => ⟨0, rfl, rfl⟩, fun h => absurd ⟨c, by decide⟩ h⟩
  ·
   rw [if_neg c1, if_neg c1]
   by_cases c2 : at_ L 0 = diffW
   ·
    rw [if_pos c2, if_pos c2]
    exact ⟨fun _ _ => ⟨1, rfl, rfl⟩, fun h => absurd ⟨c, by decide⟩ h⟩
   ·
    rw [if_neg c2, if_neg c2]
    by_cases c3 : at_ L 0 = resyncW
    ·
     rw [if_pos c3, if_pos c3]
     exact ⟨fun _ _ => ⟨2, rfl, rfl⟩, fun h => absurd ⟨c, by decide⟩ h⟩
    ·
     rw [if_neg c3, if_neg c3]
     exact ⟨fun _ h => absurd rfl h, fun _ => rfl⟩
 ·
  have e : ¬ (L.length : Int) = 3 + 1 := by omega
  simp only [e, if_false]
  exact ⟨fun h => absurd h c, fun _ => trivial⟩
abbrev MR := Int × Int × Int × List Rw × List Ch × Int
def badM (e : Int) : MR := (0, 0, 0, [], [], e)
def idS (l : T) : Int × Int := if (readS l).2 = 0 then (if (readS l).1 < 0 then (0, 3) else if 2147483648 ≤ (readS l).1 then (0, 3) else ((readS l).1, 0)) else (0, (readS l).2)
def msgS (L : List T) : MR :=
 if L.length = 4 ∧ kindN (at_ L 0) ≠ 0 then (if (idS (at_ L 1)).2 = 0 then (if (stS (at_ L 2)).2 = 0 then
  (if kindN (at_ L 0) = 2 then (if (parseC (at_ L 3)).2 = 0 then (2, (idS (at_ L 1)).1, (stS (at_ L 2)).1, [], (parseC (at_ L 3)).1, 0) else badM (parseC (at_ L 3)).2)
   else (if (parseR (at_ L 3)).2 = 0 then (kindN (at_ L 0), (idS (at_ L 1)).1, (stS (at_ L 2)).1, (parseR (at_ L 3)).1, [], 0) else badM (parseR (at_ L 3)).2))
  else badM (stS (at_ L 2)).2) else badM (idS (at_ L 1)).2) else badM 2
theorem msg_read {s : T} (hs : s.length ≤ 500) {k : Nat} (hk : 50000 ≤ k) : reply_ReadMessage.f k (mk s) = some (msgS (spl 32 s)) := by
 have hp : ∀ p ∈ spl 32 s, p.length ≤ 500 := fun p hp2 => Nat.le_trans (spl_short 32 s p hp2) hs
 unfold reply_ReadMessage.f
 rw [sp_eq hs hk]
 simp only [Option.bind_some]
 generalize spl 32 s = L at hp
 obtain ⟨ks, hks, hkl, hyes, hno⟩ := g_kinds L
 have hl1 := at_len hp 1
 have hl2 := at_len hp 2
 have hl3 := at_len hp 3
 rw [hks]
 simp only [Option.bind_some]
 rw [if_pos hkl]
 unfold msgS
 by_cases c : L.length = 4 ∧ kindN (at_ L 0) ≠ 0
 ·
  obtain ⟨i, hi, hik⟩ := hyes c.1 c.2
  have r1 := at_rd (L := L) (i := 1) (by omega)
  have r2 := at_rd (L := L) (i := 2) (by omega)
  have r3 := at_rd (L := L) (i := 3) (by omega)
  rw [show ((1 : Nat) : Int) = 1 from rfl] at r1
  rw [show ((2 : Nat) : Int) = 2 from rfl] at r2
  rw [show ((3 : Nat) : Int) = 3 from rfl] at r3
  rw [hi, if_pos (show (some i).isSome = true from rfl), if_pos c, r1, r2, r3, read_eq (by omega), read_eq (by omega), cparse_eq (by omega) (by omega), (rows_parse (s := at_ L 3) (by omega) (by omega)).1]
  simp only [Option.bind_some, Option.getD_some, hik]
  unfold idS stS
  by_cases c4 : (readS (at_ L 1)).2 = 0
  ·
   rw [if_pos c4, if_pos c4]
   by_cases c5 : (readS (at_ L 1)).1 < 0
   ·
    rw [if_pos c5, if_pos c5]
    rfl
   ·
    rw [if_neg c5, if_neg c5]
    by_cases c6 : 2147483648 ≤ (readS (at_ L 1)).1
    ·
     rw [if_pos c6, if_pos c6]
     rfl
    ·
     rw [if_neg c6, if_neg c6, if_pos rfl]
     by_cases d4 : (readS (at_ L 2)).2 = 0
     ·
      rw [if_pos d4, if_pos d4]
      by_cases d5 : (readS (at_ L 2)).1 < 0
      ·
       rw [if_pos d5, if_pos d5]
       rfl
      ·
       rw [if_neg d5, if_neg d5, if_pos rfl]
       by_cases d6 : kindN (at_ L 0) = 2
       ·
        rw [if_pos d6, if_pos d6, d6]
        split <;> rfl
       ·
        rw [if_neg d6, if_neg d6]
        split <;> rfl
     ·
      rw [if_neg d4, if_neg d4, if_neg d4]
      rfl
  ·
   rw [if_neg c4, if_neg c4, if_neg c4]
   rfl
 ·
  rw [hno c, if_neg (by simp), if_neg c]
  rfl
theorem rmsg_read {s : T} (hs : s.length ≤ 500) {k : Nat} (hk : 50000 ≤ k) : r23_ReadMessage.f k (mk s) = some (msgS (spl 32 s)) := by
 have hp : ∀ p ∈ spl 32 s, p.length ≤ 500 := fun p hp2 => Nat.le_trans (spl_short 32 s p hp2) hs
 unfold r23_ReadMessage.f
 rw [rsp_eq hs hk]
 simp only [Option.bind_some, List.length_map]
 generalize spl 32 s = L at hp
 have hl1 := at_len hp 1
 have hl2 := at_len hp 2
 have hl3 := at_len hp 3
 unfold msgS
 by_cases c : L.length = 4
 ·
  have r0 := at_rd (L := L) (i := 0) (by omega)
  have r1 := at_rd (L := L) (i := 1) (by omega)
  have r2 := at_rd (L := L) (i := 2) (by omega)
  have r3 := at_rd (L := L) (i := 3) (by omega)
  rw [show ((0 : Nat) : Int) = 0 from rfl] at r0
  rw [show ((1 : Nat) : Int) = 1 from rfl] at r1
  rw [show ((2 : Nat) : Int) = 2 from rfl] at r2
  rw [show ((3 : Nat) : Int) = 3 from rfl] at r3
  rw [if_pos (by omega), r0, r1, r2, r3, rkind_eq, rread_eq (by omega) (by omega), rst_eq (by omega) (by omega), rcparse_eq (by omega) (by omega), (rows_parse (s := at_ L 3) (by omega) (by omega)).2]
  simp only [Option.bind_some]
  by_cases c2 : kindN (at_ L 0) = 0
  ·
   rw [if_pos c2, if_neg (show ¬ (L.length = 4 ∧ kindN (at_ L 0) ≠ 0) from fun h => h.2 c2)]
   rfl
  ·
   rw [if_neg c2, if_pos (show L.length = 4 ∧ kindN (at_ L 0) ≠ 0 from ⟨c, c2⟩)]
   unfold idS
   by_cases c4 : (readS (at_ L 1)).2 = 0
   ·
    rw [if_pos c4, if_pos c4]
    by_cases c5 : (readS (at_ L 1)).1 < 0
    ·
     rw [if_pos c5, if_pos c5]
     rfl
    ·
     rw [if_neg c5, if_neg c5]
     by_cases c6 : 2147483648 ≤ (readS (at_ L 1)).1
     ·
      rw [if_pos c6, if_pos c6]
      rfl
     ·
      rw [if_neg c6, if_neg c6, if_pos rfl]
      by_cases d4 : (stS (at_ L 2)).2 = 0
      ·
       rw [if_pos d4, if_pos d4]
       by_cases d6 : kindN (at_ L 0) = 2
       ·
        rw [if_pos d6, if_pos d6, d6]
        split <;> rfl
       ·
        rw [if_neg d6, if_neg d6]
        split <;> rfl
      ·
       rw [if_neg d4, if_neg d4]
       rfl
   ·
    rw [if_neg c4, if_neg c4, if_neg c4]
    rfl
 ·
  rw [if_neg (show ¬ (L.length = 4 ∧ kindN (at_ L 0) ≠ 0) from fun h => c h.1), if_neg (show ¬ (L.length : Int) = 4 by omega)]
  rfl
theorem rparse_len (s : T) : (parseR s).1.length ≤ s.length + 1 := by
 have hh : ∀ (L : List T) (acc : List Rw), (rowsP L acc).1.length ≤ acc.length + L.length := by
  intro L
  induction L with
  | nil =>
   intro acc
   rw [rowsP]
   split
   ·
    simp
   ·
    simp
  | cons t L ih =>
   intro acc
   rw [rowsP]
   split
   ·
    have := ih (acc ++ [(oneR t).1])
    rw [List.length_append, List.length_singleton] at this
    rw [List.length_cons]
    omega
   ·
    simp
 unfold parseR
 split
 ·
  simp
 ·
  have := hh (spl 59 s) []
  have h2 := spl_len 59 s
  simp only [List.length_nil] at this
  omega
theorem rowsS_len {L : List T} (h : ∀ p ∈ L, p.length ≤ 500) : (rowsS L).2.2.1.length ≤ 501 := by
 have h2 := rparse_len (at_ L 2)
 have h3 := at_len h 2
 unfold rowsS
 split
 ·
  split
  ·
   split
   ·
    show (parseR (at_ L 2)).1.length ≤ 501
    omega
   ·
    exact Nat.zero_le _
  ·
   exact Nat.zero_le _
 ·
  exact Nat.zero_le _
theorem msgS_len {L : List T} (h : ∀ p ∈ L, p.length ≤ 500) : (msgS L).2.2.2.1.length ≤ 501 ∧ (msgS L).2.2.2.2.1.length ≤ 501 := by
 have h2 := rparse_len (at_ L 3)
 have h4 := parse_len (at_ L 3)
 have h3 := at_len h 3
 have hz : ∀ e : Int, (badM e).2.2.2.1.length ≤ 501 ∧ (badM e).2.2.2.2.1.length ≤ 501 := fun _ => ⟨Nat.zero_le _, Nat.zero_le _⟩
 unfold msgS
 split
 ·
  split
  ·
   split
   ·
    split
    ·
     split
     ·
      exact ⟨Nat.zero_le _, show (parseC (at_ L 3)).1.length ≤ 501 by omega⟩
     ·
      exact hz _
    ·
     split
     ·
      exact ⟨show (parseR (at_ L 3)).1.length ≤ 501 by omega, Nat.zero_le _⟩
     ·
      exact hz _
   ·
    exact hz _
  ·
   exact hz _
 ·
  exact hz _
end Go.Proofs.YteckidchnicjeaaGreatDoor.Pure
end
section
namespace Go.Proofs.YteckidchnicjeaaGreatDoor.Pure
open Go.RowKit Go.Proofs.YteckidchnicjeaaGreatDoor.X Go.Proofs.YteckidchnicjeaaGreatDoorW.PrintWords Go.Proofs.YteckidchnicjeaaGreatDoorW.PrintLast Go.Proofs.YteckidchnicjeaaGreatDoorW.PrintMore Go.Proofs.YteckidchnicjeaaGreatDoor.Aid Go.Proofs.YteckidchnicjeaaGreatDoor.Bytes
set_option linter.unusedVariables false
theorem rself_l0 {l : List Rw} (hn : l.length ≤ 100000) (d : Nat) : ∀ (i k : Nat), i + d = l.length → d < k → r08_Same.l0 k l l (i : Int) = some true := by
 induction d with
 | zero =>
  intro i k hi hk
  obtain ⟨k, rfl⟩ := succ_of hk
  simp only [r08_Same.l0]
  rw [if_neg (by omega)]
 | succ d ih =>
  intro i k hi hk
  obtain ⟨k, rfl⟩ := succ_of hk
  simp only [r08_Same.l0]
  rw [if_pos (by omega), if_pos (by omega), if_pos (by omega), if_neg (by simp), w64s (by omega)]
  exact ih (i + 1) k (by omega) (by omega)
theorem rself {l : List Rw} (hn : l.length ≤ 100000) {k : Nat} (hk : 100000 < k) : r08_Same.f k l l = some true := by
 unfold r08_Same.f
 rw [if_pos rfl]
 exact rself_l0 hn l.length 0 k (by omega) (by omega)
theorem cself_l0 {l : List Ch} (hn : l.length ≤ 100000) (d : Nat) : ∀ (i k : Nat), i + d = l.length → d < k → r09_Same.l0 k l l (i : Int) = some true := by
 induction d with
 | zero =>
  intro i k hi hk
  obtain ⟨k, rfl⟩ := succ_of hk
  simp only [r09_Same.l0]
  rw [if_neg (by omega)]
 | succ d ih =>
  intro i k hi hk
  obtain ⟨k, rfl⟩ := succ_of hk
  simp only [r09_Same.l0]
  rw [if_pos (by omega), if_pos (by omega), if_pos (by omega), if_neg (by simp), w64s (by omega)]
  exact ih (i + 1) k (by omega) (by omega)
theorem cself {l : List Ch} (hn : l.length ≤ 100000) {k : Nat} (hk : 100000 < k) : r09_Same.f k l l = some true := by
 unfold r09_Same.f
 rw [if_pos rfl]
 exact cself_l0 hn l.length 0 k (by omega) (by omega)
theorem aself (a b : Int) {l : List Rw} (hn : l.length ≤ 100000) {k : Nat} (hk : 100000 < k) : r16_Answers.f k a b l a b l = some true := by
 unfold r16_Answers.f
 rw [if_pos rfl, if_pos rfl, rself hn hk]
 rfl
theorem mself (a b c : Int) {l : List Rw} {m : List Ch} (hn : l.length ≤ 100000) (hm : m.length ≤ 100000) {k : Nat} (hk : 100000 < k) : r19_Equal.f k a b c l m a b c l m = some true := by
 unfold r19_Equal.f
 rw [if_pos rfl, if_pos rfl, if_pos rfl, rself hn hk]
 simp only [Option.bind_some, if_true]
 rw [cself hm hk]
 rfl
end Go.Proofs.YteckidchnicjeaaGreatDoor.Pure
end
section
namespace Go.Proofs.YteckidchnicjeaaGreatDoor.Pure
open Go.RowKit Go.Proofs.YteckidchnicjeaaGreatDoor.X Go.Proofs.YteckidchnicjeaaGreatDoorW.PrintWords Go.Proofs.YteckidchnicjeaaGreatDoorW.PrintLast Go.Proofs.YteckidchnicjeaaGreatDoorW.PrintMore Go.Proofs.YteckidchnicjeaaGreatDoor.Aid Go.Proofs.YteckidchnicjeaaGreatDoor.Bytes
set_option linter.unusedVariables false
theorem alive_eq (k : Nat) (hk : 200 ≤ k) : w23_alive.f k = some true :=
 at_rounds (g := fun k => w23_alive.f k) w23_alive.mono hk (by decide +kernel)
theorem ReplyReads : w23_ReplyReads.Pure := by
 intro a _
 obtain ⟨s, rfl⟩ := str_mk a
 obtain ⟨K, hK⟩ : ∃ K : Nat, 200000 ≤ K := ⟨_, Nat.le_refl _⟩
 refine ⟨K, ?_⟩
 unfold w23_ReplyReads.f
 rw [alive_eq _ (by omega)]
 simp only [Option.bind_some, if_true]
 rw [mk_size]
 by_cases h : (s.length : Int) > 500
 ·
  rw [if_pos h]
 ·
  have hs : s.length ≤ 500 := by omega
  rw [if_neg h, stored_eq hs (by omega), rstored_eq hs (by omega), rows_read hs (by omega), rrows_read hs (by omega), msg_read hs (by omega), rmsg_read hs (by omega)]
  have hp : ∀ p ∈ spl 32 s, p.length ≤ 500 := fun p hp2 => Nat.le_trans (spl_short 32 s p hp2) hs
  have h1 := rowsS_len hp
  have h2 := msgS_len hp
  simp only [Option.bind_some]
  rw [if_pos trivial, if_pos trivial, aself _ _ (by omega) (by omega)]
  simp only [Option.bind_some, if_true]
  rw [mself _ _ _ (by omega) (by omega) (by omega)]
  simp only [Option.bind_some, if_true, beq_self_eq_true]
end Go.Proofs.YteckidchnicjeaaGreatDoor.Pure
end
