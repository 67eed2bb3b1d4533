/- Plain facts on what the printed functions compute, joined; each says its conditions. -/
import Derived.Test.YtgcbejidponoaaaGreatDoorM16
import Derived.Test.YtgcbejidponoaaaGreatDoorM7
import Derived.Test.YtgcbejidponoaaaGreatDoorM6
import Derived.Test.YtgcbejidponoaaaGreatDoorM13
import Derived.Test.YtgcbejidponoaaaGreatDoorM12
import Derived.Test.YtgcbejidponoaaaGreatDoorM15
import Derived.Test.YtgcbejidponoaaaGreatDoorM14
section
namespace Go.Proofs.YtgcbejidponoaaaGreatDoor.Pure
open Go.RowKit Go.Proofs.YtgcbejidponoaaaGreatDoor.X Go.Proofs.YtgcbejidponoaaaGreatDoorW.PrintWords Go.Proofs.YtgcbejidponoaaaGreatDoorW.PrintLast Go.Proofs.YtgcbejidponoaaaGreatDoorW.PrintMore Go.Proofs.YtgcbejidponoaaaGreatDoor.Aid Go.Proofs.YtgcbejidponoaaaGreatDoor.Bytes
def bare (c : Ch) : Bool := !c.f1 || (c.f0.f2.f0 == 0 && !c.f0.f2.f1)
def rightC (l : List Ch) : Bool := l.all bare && rightS (l.map (·.f0))
theorem bare_neg (c : Ch) (h : c.f1 = true) : ((!(c.f0.f0 == c.f0.f0) || (!(c.f0.f1.toList == c.f0.f1.toList) || (!(c.f0.f2.f0 == 0) || !(c.f0.f2.f1 == false)))) || !(c.f1 == true)) = !bare c := by
 unfold bare
 rw [h]
 cases c.f0.f2.f1 <;> simp
theorem cright_l0 {l : List Ch} (hs : ShR (l.map (·.f0))) (hl : l.length ≤ 1000) (d : Nat) : ∀ (i k : Nat), i + d = l.length → d + 36000 < k → (∀ c ∈ l.take i, bare c = true) →
 diff_right.l0 k ((l.take i).map (·.f0)) l (l.length : Int) (i : Int) = some (rightC l) := by
 induction d with
 | zero =>
  intro i k hi hk hb
  obtain ⟨k, rfl⟩ := succ_of hk
  have ht : l.take i = l := List.take_of_length_le (by omega)
  rw [ht] at hb ⊢
  simp only [diff_right.l0]
  rw [if_neg (by omega), (right_eq hs (by rw [List.length_map]; exact hl) (by omega)).1, Option.bind_some]
  unfold rightC
  rw [List.all_eq_true.2 hb, Bool.true_and]
 | succ d ih =>
  intro i k hi hk hb
  obtain ⟨k, rfl⟩ := succ_of hk
  have hlt : i < l.length := by omega
  have h0 : (l.take (i + 1)).map (·.f0) = (l.take i).map (·.f0) ++ [l[i].f0] := by rw [take_at hlt, List.map_append]; rfl
  have hlen : ((l.take i).map (·.f0)).length < 3518437208883 := by rw [List.length_map, List.length_take]; omega
  simp only [diff_right.l0]
  rw [if_pos (by omega), if_pos (by omega), if_pos (by omega), rdC hlt, w64s (by omega)]
  have hnext : bare l[i] = true → diff_right.l0 k ((l.take i).map (·.f0) ++ [l[i].f0]) l (l.length : Int) ((i + 1 : Nat) : Int) = some (rightC l) := fun hbi => by
   rw [← h0]
   refine ih (i + 1) k (by omega) (by omega) fun c hc => ?_
   rw [take_at hlt, List.mem_append, List.mem_singleton] at hc
   rcases hc with hc | rfl
   ·
    exact hb c hc
   ·
    exact hbi
  by_cases hg : l[i].f1 = true
  ·
   rw [if_pos hg]
   simp only [diff_gone.f, Option.bind_some]
   rw [bare_neg _ hg]
   by_cases hbi : bare l[i] = true
   ·
    rw [hbi, if_neg (by decide), if_pos hlen]
    exact hnext hbi
   ·
    rw [Bool.eq_false_iff.2 hbi, if_pos (show (!false) = true from rfl)]
    unfold rightC
    have : l.all bare = false := by
     rw [Bool.eq_false_iff]
     intro h
     exact hbi (List.all_eq_true.1 h _ (List.getElem_mem hlt))
    rw [this, Bool.false_and]
  ·
   rw [if_neg hg, if_pos hlen]
   exact hnext (by unfold bare; rw [Bool.eq_false_iff.2 hg]; rfl)
theorem cright_eq {l : List Ch} (hs : ShR (l.map (·.f0))) (hl : l.length ≤ 1000) {k : Nat} (hk : 37100 ≤ k) : diff_right.f k l = some (rightC l) :=
 cright_l0 hs hl l.length 0 k (by omega) (by omega) (fun c hc => by simp at hc)
theorem rcright_l0 {l : List Ch} (hs : ShR (l.map (·.f0))) (hl : l.length ≤ 1000) (d : Nat) : ∀ (i k : Nat), i + d = l.length → d + 36000 < k → (∀ c ∈ l.take i, bare c = true) →
 r09_Right.l0 k l ((l.take i).map (·.f0)) (i : Int) = some (rightC l) := by
 induction d with
 | zero =>
  intro i k hi hk hb
  obtain ⟨k, rfl⟩ := succ_of hk
  have ht : l.take i = l := List.take_of_length_le (by omega)
  rw [ht] at hb ⊢
  simp only [r09_Right.l0]
  rw [if_neg (by omega), (right_eq hs (by rw [List.length_map]; exact hl) (by omega)).2, Option.bind_some]
  unfold rightC
  rw [List.all_eq_true.2 hb, Bool.true_and]
 | succ d ih =>
  intro i k hi hk hb
  obtain ⟨k, rfl⟩ := succ_of hk
  have hlt : i < l.length := by omega
  have h0 : (l.take (i + 1)).map (·.f0) = (l.take i).map (·.f0) ++ [l[i].f0] := by rw [take_at hlt, List.map_append]; rfl
  have hlen : ((l.take i).map (·.f0)).length < 3518437208883 := by rw [List.length_map, List.length_take]; omega
  simp only [r09_Right.l0]
  rw [if_pos (by omega), if_pos (by omega), rdC hlt, w64s (by omega)]
  have hnext : bare l[i] = true → r09_Right.l0 k l ((l.take i).map (·.f0) ++ [l[i].f0]) ((i + 1 : Nat) : Int) = some (rightC l) := fun hbi => by
   rw [← h0]
   refine ih (i + 1) k (by omega) (by omega) fun c hc => ?_
   rw [take_at hlt, List.mem_append, List.mem_singleton] at hc
   rcases hc with hc | rfl
   ·
    exact hb c hc
   ·
    exact hbi
  by_cases hg : l[i].f1 = true
  ·
   rw [if_pos hg]
   have hv : (!(l[i].f0.f2.f0 == 0) || l[i].f0.f2.f1) = !bare l[i] := by
    unfold bare
    rw [hg]
    cases l[i].f0.f2.f1 <;> simp
   rw [hv]
   by_cases hbi : bare l[i] = true
   ·
    rw [hbi, if_neg (by decide), if_pos hlen]
    exact hnext hbi
   ·
    rw [Bool.eq_false_iff.2 hbi, if_pos (show (!false) = true from rfl)]
    unfold rightC
    have : l.all bare = false := by
     rw [Bool.eq_false_iff]
     intro h
     exact hbi (List.all_eq_true.1 h _ (List.getElem_mem hlt))
    rw [this, Bool.false_and]
  ·
   rw [if_neg hg, if_pos hlen]
   exact hnext (by unfold bare; rw [Bool.eq_false_iff.2 hg]; rfl)
theorem rcright_eq {l : List Ch} (hs : ShR (l.map (·.f0))) (hl : l.length ≤ 1000) {k : Nat} (hk : 37100 ≤ k) : r09_Right.f k l = some (rightC l) :=
 rcright_l0 hs hl l.length 0 k (by omega) (by omega) (fun c hc => by simp at hc)
def ahead (c : Ch) (l : List Rw) : List Rw := l.takeWhile fun x => lt (key x) (ck c)
def behind (c : Ch) (l : List Rw) : List Rw := l.dropWhile fun x => lt (key x) (ck c)
theorem ahead_cons (c : Ch) (x : Rw) (l : List Rw) : ahead c (x :: l) = if lt (key x) (ck c) = true then x :: ahead c l else [] := by
 unfold ahead
 rw [List.takeWhile_cons]
theorem behind_cons (c : Ch) (x : Rw) (l : List Rw) : behind c (x :: l) = if lt (key x) (ck c) = true then behind c l else x :: l := by
 unfold behind
 rw [List.dropWhile_cons]
theorem ahead_behind (c : Ch) (l : List Rw) : ahead c l ++ behind c l = l := List.takeWhile_append_dropWhile
theorem ahead_lt {c : Ch} : ∀ {l : List Rw} {x : Rw}, x ∈ ahead c l → lt (key x) (ck c) = true
 | y :: l, x, h => by
  rw [ahead_cons] at h
  by_cases hy : lt (key y) (ck c) = true
  ·
   rw [if_pos hy, List.mem_cons] at h
   rcases h with rfl | h
   ·
    exact hy
   ·
    exact ahead_lt h
  ·
   rw [if_neg hy] at h
   simp at h
theorem len_ab (c : Ch) (l : List Rw) : (ahead c l).length + (behind c l).length = l.length := by
 conv => rhs; rw [← ahead_behind c l]
 rw [List.length_append]
theorem behind_head {c : Ch} : ∀ {l : List Rw} {y : Rw} {ys : List Rw}, behind c l = y :: ys → lt (key y) (ck c) = false
 | x :: l, y, ys, h => by
  rw [behind_cons] at h
  by_cases hx : lt (key x) (ck c) = true
  ·
   rw [if_pos hx] at h
   exact behind_head h
  ·
   rw [if_neg hx] at h
   injection h with h1 h2
   rw [← h1]
   exact Bool.eq_false_iff.2 hx
def there (c : Ch) : List Rw → Bool
 | [] => false
 | y :: _ => !lt (ck c) (key y)
def past (c : Ch) (l : List Rw) : List Rw := if there c l = true then l.drop 1 else l
def apP : List Ch → List Rw → List Rw → List Rw × Int
 | [], out, rest => (out ++ rest, 0)
 | c :: cs, out, rest => if c.f1 = true then (if there c (behind c rest) = true then apP cs (out ++ ahead c rest) (past c (behind c rest)) else ([], 6)) else apP cs (out ++ ahead c rest ++ [c.f0]) (past c (behind c rest))
theorem past_len (c : Ch) (l : List Rw) : (past c l).length ≤ l.length := by
 unfold past
 split
 ·
  rw [List.length_drop]; omega
 ·
  exact Nat.le_refl _
theorem ap_l1 (c : Ch) (cs : List Ch) (n i : Int) (R : List Rw × Int) (K : Nat) (hK : 3 ≤ K) : ∀ (rest out : List Rw) (k : Nat), (ahead c rest).length + K < k → out.length + rest.length ≤ 100000 →
 (∀ k', K ≤ k' → diff_Apply.j3 k' (out ++ ahead c rest) (behind c rest) cs n i c.f0.f0 c.f0.f1 c.f0.f2.f0 c.f0.f2.f1 c.f1 = some R) →
 diff_Apply.l1 k out rest cs n i c.f0.f0 c.f0.f1 c.f0.f2.f0 c.f0.f2.f1 c.f1 = some R
 | [], out, k, hk, hb, h => by
  obtain ⟨k, rfl⟩ := succ_of hk
  simp only [diff_Apply.l1]
  rw [if_neg (by simp)]
  have h2 := h k (by omega)
  rw [show ahead c [] = [] from rfl, show behind c [] = [] from rfl, List.append_nil] at h2
  exact h2
 | x :: rest, out, k, hk, hb, h => by
  obtain ⟨k, rfl⟩ := succ_of hk
  rw [List.length_cons] at hb
  have hp : ((x :: rest).length : Int) > 0 := by rw [List.length_cons]; omega
  have h1 : 1 ≤ ((x :: rest).length : Int) := hp
  have r0 : rd_T45 (x :: rest) 0 = x := rfl
  simp only [diff_Apply.l1]
  rw [if_pos hp, if_pos hp, r0, before_eq x c.f0 (by omega), Option.bind_some]
  rw [ahead_cons, behind_cons] at h
  rw [ahead_cons] at hk
  by_cases hx : lt (key x) (ck c) = true
  ·
   have hx' : lt (key x) (key c.f0) = true := hx
   rw [if_pos hx, if_pos hx] at h
   rw [if_pos hx, List.length_cons] at hk
   rw [if_pos hx', if_pos (by omega), if_pos h1]
   refine ap_l1 c cs n i R K hK rest (out ++ [x]) k (by omega) (by rw [List.length_append, List.length_singleton]; omega) fun k' hk' => ?_
   rw [List.append_assoc]
   exact h k' hk'
  ·
   have hx' : ¬ lt (key x) (key c.f0) = true := hx
   rw [if_neg hx, if_neg hx, List.append_nil] at h
   rw [if_neg hx']
   exact h k (by omega)
theorem ap_j5 (c : Ch) (cs : List Ch) (n : Int) (i : Nat) (hi : i < 100000) (t : Bool) (o p : List Rw) (ho : o.length ≤ 100000) (R : List Rw × Int) (k : Nat)
 (h1 : c.f1 = true → t = true → diff_Apply.l0 k o p cs n ((i + 1 : Nat) : Int) = some R) (h2 : c.f1 = true → t = false → R = ([], 6)) (h3 : c.f1 = false → diff_Apply.l0 k (o ++ [c.f0]) p cs n ((i + 1 : Nat) : Int) = some R) :
 diff_Apply.j5 (k + 1) o p t cs n (i : Int) c.f0.f0 c.f0.f1 c.f0.f2.f0 c.f0.f2.f1 c.f1 = some R := by
 simp only [diff_Apply.j5]
 rw [w64s (by omega)]
 by_cases hc : c.f1 = true
 ·
  rw [if_pos hc]
  cases t with
  | true => rw [if_pos rfl]; exact h1 hc rfl
  | false => rw [if_neg (by decide), h2 hc rfl]
 ·
  rw [if_neg hc, if_pos (by omega)]
  exact h3 (Bool.eq_false_iff.2 hc)
theorem ap_l0 {cs : List Ch} (hn : cs.length ≤ 1000) (d : Nat) : ∀ (i k : Nat) (out rest : List Rw), i + d = cs.length → 8 * d + rest.length + 20 < k → out.length + rest.length + d ≤ 10000 →
 diff_Apply.l0 k out rest cs (cs.length : Int) (i : Int) = some (apP (cs.drop i) out rest) := by
 induction d with
 | zero =>
  intro i k out rest hi hk hb
  obtain ⟨k, rfl⟩ := succ_of hk
  simp only [diff_Apply.l0]
  rw [if_neg (by omega), if_pos (by omega), List.drop_of_length_le (by omega)]
  rfl
 | succ d ih =>
  intro i k out rest hi hk hb
  obtain ⟨k, rfl⟩ := succ_of hk
  have hlt : i < cs.length := by omega
  have hab := len_ab cs[i] rest
  have hpl := past_len cs[i] (behind cs[i] rest)
  simp only [diff_Apply.l0]
  rw [if_pos (by omega), if_pos (by omega), if_pos (by omega), rdC hlt, drop_at hlt]
  refine ap_l1 cs[i] cs _ _ _ (8 * d + (behind cs[i] rest).length + 26) (by omega) rest out k (by omega) (by omega) fun k' hk' => ?_
  obtain ⟨k', rfl⟩ : ∃ m, k' = m + 1 + 1 + 1 := ⟨k' - 3, by omega⟩
  have hfin : ∀ (p : List Rw), p = past cs[i] (behind cs[i] rest) → diff_Apply.j5 (k' + 1) (out ++ ahead cs[i] rest) p (there cs[i] (behind cs[i] rest)) cs (cs.length : Int) (i : Int) cs[i].f0.f0 cs[i].f0.f1 cs[i].f0.f2.f0 cs[i].f0.f2.f1 cs[i].f1 = some (apP (cs[i] :: cs.drop (i + 1)) out rest) := fun p hp => by
   subst hp
   refine ap_j5 cs[i] cs _ i (by omega) _ _ _ (by rw [List.length_append]; omega) _ k' (fun a b => ?_) (fun a b => ?_) (fun a => ?_)
   ·
    rw [apP, if_pos a, if_pos b]
    exact ih (i + 1) k' _ _ (by omega) (by omega) (by rw [List.length_append]; omega)
   ·
    rw [apP, if_pos a, if_neg (by rw [b]; decide)]
   ·
    rw [apP, if_neg (by rw [a]; decide)]
    exact ih (i + 1) k' _ _ (by omega) (by omega) (by rw [List.length_append, List.length_append, List.length_singleton]; omega)
  simp only [diff_Apply.j3]
  cases hb2 : behind cs[i] rest with
  | nil =>
   rw [hb2] at hfin
   rw [if_neg (by simp)]
   simp only [diff_Apply.j4]
   rw [if_neg (by decide)]
   exact hfin [] rfl
  | cons y ys =>
   rw [hb2] at hfin
   have hp : ((y :: ys).length : Int) > 0 := by rw [List.length_cons]; omega
   have r0 : rd_T45 (y :: ys) 0 = y := rfl
   rw [if_pos hp, if_pos hp, r0, before_eq cs[i].f0 y (by omega), Option.bind_some]
   simp only [diff_Apply.j4]
   have ht : there cs[i] (y :: ys) = !lt (key cs[i].f0) (key y) := rfl
   rw [← ht]
   by_cases h : there cs[i] (y :: ys) = true
   ·
    rw [if_pos h, if_pos (show (1 : Int) ≤ ((y :: ys).length : Int) from hp)]
    exact hfin _ (by unfold past; rw [if_pos h])
   ·
    rw [if_neg h]
    exact hfin _ (by unfold past; rw [if_neg h])
def applyS (l : List Rw) (c : List Ch) : List Rw × Int := if rightS l = true then (if rightC c = true then apP c [] l else ([], 9)) else ([], 9)
theorem apply_eq {l : List Rw} {c : List Ch} (sl : ShR l) (ll : l.length ≤ 1000) (sc : ShR (c.map (·.f0))) (lc : c.length ≤ 1000) {k : Nat} (hk : 40000 ≤ k) : diff_Apply.f k l c = some (applyS l c) := by
 obtain ⟨m, rfl⟩ : ∃ m, k = m + 1 := ⟨k - 1, by omega⟩
 unfold diff_Apply.f applyS
 rw [(right_eq sl ll (by omega)).1, Option.bind_some]
 by_cases h : rightS l = true
 ·
  rw [if_pos h, if_pos h, cright_eq sc lc (by omega), Option.bind_some]
  simp only [diff_Apply.j0]
  by_cases h2 : rightC c = true
  ·
   rw [if_pos h2, h2, if_neg (by decide)]
   exact ap_l0 lc c.length 0 m [] l (by omega) (by omega) (by simp; omega)
  ·
   rw [if_neg h2, Bool.eq_false_iff.2 h2, if_pos (by decide)]
 ·
  rw [if_neg h, if_neg h]
  simp only [diff_Apply.j0]
  rw [if_pos trivial]
theorem rdr_mid {p q : List Rw} {y : Rw} {j : Nat} (hj : j = p.length) : rd_T45 (p ++ y :: q) (j : Int) = y := by
 subst hj
 rw [rdR (by rw [List.length_append, List.length_cons]; omega), List.getElem_append_right (Nat.le_refl _)]
 simp
theorem rap_l1 (c : Ch) (cs : List Ch) (i : Nat) (hi : i < 100000) (R : List Rw × Int) (K : Nat) : ∀ (suf pre : List Rw) (k : Nat), suf.length + K < k → pre.length + suf.length ≤ 100000 →
 (∀ k', K ≤ k' → r09_Apply.l0 k' cs (pre ++ ahead c suf ++ [c.f0] ++ behind c suf) ((i + 1 : Nat) : Int) = some R) →
 r09_Apply.l1 k cs (pre ++ suf) (i : Int) (pre.length : Int) c.f0.f0 c.f0.f1 c.f0.f2.f0 c.f0.f2.f1 c.f1 = some R
 | [], pre, k, hk, hb, h => by
  obtain ⟨k, rfl⟩ := succ_of hk
  rw [List.length_nil] at hb
  have ht : (pre ++ []).take ((pre.length : Int)).toNat = pre := by rw [List.append_nil, Int.toNat_natCast, List.take_length]
  have hd : (pre ++ []).drop ((pre.length : Int)).toNat = [] := by rw [List.append_nil, Int.toNat_natCast, List.drop_length]
  have hl : (pre ++ []).length = pre.length := by rw [List.append_nil]
  simp only [r09_Apply.l1]
  rw [ht, hd, hl, if_neg (by omega), Option.bind_some, if_pos (by omega), if_pos (by omega), Option.bind_some, if_pos (by simp), Option.bind_some, Option.bind_some, if_pos (by omega), Option.bind_some, if_pos (by simp; omega), w64s (by omega)]
  have h2 := h k (by omega)
  rw [show ahead c [] = [] from rfl, show behind c [] = [] from rfl, List.append_nil, List.append_nil] at h2
  simp only [List.append_nil]
  exact h2
 | z :: suf, pre, k, hk, hb, h => by
  obtain ⟨k, rfl⟩ := succ_of hk
  rw [List.length_cons] at hk hb
  have hz : rd_T45 (pre ++ z :: suf) (pre.length : Int) = z := rdr_mid rfl
  have ht : (pre ++ z :: suf).take ((pre.length : Int)).toNat = pre := by rw [Int.toNat_natCast, List.take_left]
  have hd : (pre ++ z :: suf).drop ((pre.length : Int)).toNat = z :: suf := by rw [Int.toNat_natCast, List.drop_left]
  have hl : (pre ++ z :: suf).length = pre.length + suf.length + 1 := by rw [List.length_append, List.length_cons]; omega
  rw [ahead_cons, behind_cons] at h
  simp only [r09_Apply.l1]
  rw [ht, hd, hl, hz, if_pos (by omega), if_pos (by omega), rbefore_eq z c.f0, Option.bind_some]
  by_cases hx : lt (key z) (ck c) = true
  ·
   have hx' : lt (key z) (key c.f0) = true := hx
   rw [if_pos hx, if_pos hx] at h
   have ih := rap_l1 c cs i hi R K suf (pre ++ [z]) k (by omega) (by rw [List.length_append, List.length_singleton]; omega) (fun k' hk' => by
    have := h k' hk'
    rw [show pre ++ [z] ++ ahead c suf = pre ++ z :: ahead c suf by rw [List.append_assoc]; rfl]
    exact this)
   rw [List.append_assoc, List.length_append, List.length_singleton] at ih
   rw [if_pos hx', w64s (by omega)]
   exact ih
  ·
   have hx' : ¬ lt (key z) (key c.f0) = true := hx
   rw [if_neg hx, if_neg hx, List.append_nil] at h
   rw [if_neg hx', Option.bind_some, if_pos (by omega), Option.bind_some, if_pos (by simp; omega), Option.bind_some, Option.bind_some, if_pos (by omega), Option.bind_some, if_pos (by simp; omega), List.nil_append, w64s (by omega)]
   exact h k (by omega)
theorem ahead_app {c : Ch} {out rest : List Rw} (h : ∀ x ∈ out, lt (key x) (ck c) = true) : ahead c (out ++ rest) = out ++ ahead c rest ∧ behind c (out ++ rest) = behind c rest := by
 induction out with
 | nil => exact ⟨rfl, rfl⟩
 | cons x out ih =>
  obtain ⟨h1, h2⟩ := ih (fun y hy => h y (List.mem_cons_of_mem _ hy))
  rw [List.cons_append, ahead_cons, behind_cons, if_pos (h x List.mem_cons_self), if_pos (h x List.mem_cons_self), h1, h2]
  exact ⟨rfl, rfl⟩
theorem there_or {c : Ch} {l : List Rw} (hr : Rise l) (hf : ∀ y ys, l = y :: ys → lt (key y) (ck c) = false) : (there c l = true ∧ ∃ y ys, l = y :: ys ∧ key y = ck c ∧ ∀ z ∈ ys, key z ≠ ck c) ∨ (there c l = false ∧ ∀ z ∈ l, key z ≠ ck c) := by
 cases l with
 | nil => exact .inr ⟨rfl, fun z hz => by simp at hz⟩
 | cons y ys =>
  have h1 := hf y ys rfl
  have hp := List.pairwise_cons.1 hr
  rcases lt_total (key y) (ck c) with h | h | h
  ·
   rw [h] at h1; cases h1
  ·
   refine .inl ⟨?_, y, ys, rfl, h, fun z hz e => ?_⟩
   ·
    show (!lt (ck c) (key y)) = true
    rw [h, lt_irrefl]
    rfl
   ·
    have := hp.1 z hz
    rw [e, h, lt_irrefl] at this
    cases this
  ·
   refine .inr ⟨?_, fun z hz e => ?_⟩
   ·
    show (!lt (ck c) (key y)) = false
    rw [h]
    rfl
   ·
    rcases List.mem_cons.1 hz with rfl | hz
    ·
     rw [e, lt_irrefl] at h; cases h
    ·
     have := hp.1 z hz
     rw [e, lt_asymm h] at this
     cases this
theorem rap_l0 {cs : List Ch} (hn : cs.length ≤ 1000) (B : Nat) (hB : 2100 ≤ B) (d : Nat) : ∀ (i k : Nat) (out rest : List Rw), i + d = cs.length → d * B + B < k → out.length + rest.length + d ≤ 2000 →
 Rise rest → RiseC (cs.drop i) → (∀ x ∈ out, ∀ c ∈ cs.drop i, lt (key x) (ck c) = true) →
 r09_Apply.l0 k cs (out ++ rest) (i : Int) = some (apP (cs.drop i) out rest) := by
 induction d with
 | zero =>
  intro i k out rest hi hk hb _ _ _
  obtain ⟨k, rfl⟩ := succ_of hk
  simp only [r09_Apply.l0]
  rw [if_neg (by omega), List.drop_of_length_le (by omega)]
  rfl
 | succ d ih =>
  intro i k out rest hi hk hb hr hrc ho
  rw [Nat.succ_mul] at hk
  obtain ⟨k, rfl⟩ : ∃ m, k = m + 1 + 1 := ⟨k - 2, by omega⟩
  have hlt : i < cs.length := by omega
  have hab := len_ab cs[i] rest
  rw [drop_at hlt] at hrc ho ⊢
  have hrc2 := List.pairwise_cons.1 hrc
  have hoc : ∀ x ∈ out, lt (key x) (ck cs[i]) = true := fun x hx => ho x hx _ List.mem_cons_self
  have hrb : Rise (behind cs[i] rest) := by
   have h0 : Rise (ahead cs[i] rest ++ behind cs[i] rest) := by rw [ahead_behind]; exact hr
   exact (List.pairwise_append.1 h0).2.1
  have hsplit : out ++ rest = (out ++ ahead cs[i] rest) ++ behind cs[i] rest := by rw [List.append_assoc, ahead_behind]
  have hpre : ∀ x ∈ out ++ ahead cs[i] rest, lt (key x) (ck cs[i]) = true := fun x hx => by
   rcases List.mem_append.1 hx with hx | hx
   ·
    exact hoc x hx
   ·
    exact ahead_lt hx
  have hpre2 : ∀ x ∈ out ++ ahead cs[i] rest, ∀ c ∈ cs.drop (i + 1), lt (key x) (ck c) = true := fun x hx c hc => lt_trans (hpre x hx) (hrc2.1 c hc)
  have hpre3 : ∀ x ∈ out ++ ahead cs[i] rest ++ [cs[i].f0], ∀ c ∈ cs.drop (i + 1), lt (key x) (ck c) = true := fun x hx c hc => by
   rcases List.mem_append.1 hx with hx | hx
   ·
    exact hpre2 x hx c hc
   ·
    rw [List.mem_singleton.1 hx]
    exact hrc2.1 c hc
  simp only [r09_Apply.l0]
  rw [if_pos (by omega), if_pos (by omega), rdC hlt]
  obtain ⟨r, hf, hrr⟩ := find_eq (l := out ++ rest) cs[i].f0 cs[i].f0.f2.f0 cs[i].f0.f2.f1 (by rw [List.length_append]; omega) (k := k + 1) (by rw [List.length_append]; omega)
  rw [hf, Option.bind_some]
  have hplen : (out ++ ahead cs[i] rest).length + (behind cs[i] rest).length = out.length + rest.length := by rw [List.length_append]; omega
  rcases there_or (c := cs[i]) hrb (fun y ys e => behind_head e) with ⟨ht, y, ys, hbe, hky, _⟩ | ⟨ht, hno⟩
  ·
   have hylen : (behind cs[i] rest).length = ys.length + 1 := by rw [hbe, List.length_cons]
   have hpast : past cs[i] (behind cs[i] rest) = ys := by unfold past; rw [if_pos ht, hbe]; rfl
   have hrys : Rise ys := by rw [hbe] at hrb; exact (List.pairwise_cons.1 hrb).2
   have hall : out ++ rest = (out ++ ahead cs[i] rest) ++ y :: ys := by rw [hsplit, hbe]
   have hr2 : r = ((out ++ ahead cs[i] rest).length : Int) := by
    rcases hrr with ⟨_, hnone⟩ | ⟨j, hj, rfl, hkj⟩
    ·
     exact absurd hky (hnone y (by rw [hall]; exact List.mem_append_right _ List.mem_cons_self))
    ·
     rcases Nat.lt_trichotomy j (out ++ ahead cs[i] rest).length with h | h | h
     ·
      exfalso
      have e : (out ++ rest)[j] = (out ++ ahead cs[i] rest)[j] := by
       simp only [hall]
       rw [List.getElem_append_left h]
      have := hpre _ (List.getElem_mem h)
      rw [← e, hkj] at this
      rw [show key cs[i].f0 = ck cs[i] from rfl, lt_irrefl] at this
      cases this
     ·
      rw [h]
     ·
      exfalso
      have hj2 : j - (out ++ ahead cs[i] rest).length < (y :: ys).length := by
       rw [hall, List.length_append] at hj
       omega
      have e : (out ++ rest)[j] = (y :: ys)[j - (out ++ ahead cs[i] rest).length] := by
       simp only [hall]
       rw [List.getElem_append_right (by omega)]
      have hm : (y :: ys)[j - (out ++ ahead cs[i] rest).length] ∈ ys := by
       obtain ⟨m, hm⟩ : ∃ m, j - (out ++ ahead cs[i] rest).length = m + 1 := ⟨j - (out ++ ahead cs[i] rest).length - 1, by omega⟩
       simp only [hm, List.getElem_cons_succ]
       exact List.getElem_mem _
      rw [hbe] at hrb
      have h5 := (List.pairwise_cons.1 hrb).1 _ hm
      rw [← e, hkj, hky, show key cs[i].f0 = ck cs[i] from rfl, lt_irrefl] at h5
      cases h5
   subst hr2
   rw [hall]
   have ht1 : ((out ++ ahead cs[i] rest) ++ y :: ys).take (((out ++ ahead cs[i] rest).length : Int)).toNat = out ++ ahead cs[i] rest := by rw [Int.toNat_natCast, List.take_left]
   have hd1 : ((out ++ ahead cs[i] rest) ++ y :: ys).drop ((((out ++ ahead cs[i] rest).length + 1 : Nat) : Int)).toNat = ys := by
    rw [Int.toNat_natCast, ← List.drop_drop, List.drop_left]
    rfl
   have hs1 : ((out ++ ahead cs[i] rest) ++ y :: ys).set (((out ++ ahead cs[i] rest).length : Int)).toNat cs[i].f0 = (out ++ ahead cs[i] rest ++ [cs[i].f0]) ++ ys := by
    rw [Int.toNat_natCast, List.set_append_right _ _ (Nat.le_refl _), Nat.sub_self, List.set_cons_zero]
    simp
   have hl1 : ((out ++ ahead cs[i] rest) ++ y :: ys).length = (out ++ ahead cs[i] rest).length + ys.length + 1 := by rw [List.length_append, List.length_cons]; omega
   obtain ⟨P, hP⟩ : ∃ P, P = out ++ ahead cs[i] rest := ⟨_, rfl⟩
   rw [← hP] at ht1 hd1 hs1 hl1 hplen hpre2 hpre3 ⊢
   rw [apP, hpast, ht, ← hP]
   by_cases hc : cs[i].f1 = true
   ·
    rw [if_pos hc, show decide ((P.length : Int) < 0) = false from decide_eq_false (by omega)]
    simp only [r09_Apply.j2]
    rw [if_neg (by decide), if_pos hc, Option.bind_some, if_pos (by omega), if_pos (by rw [hl1]; omega), ht1, Option.bind_some, if_pos (by simp; omega), Option.bind_some, w64s (by omega), if_pos (by omega), if_pos (by rw [hl1]; omega), hd1, Option.bind_some, if_pos (by simp; omega), List.nil_append, w64s (by omega), if_pos hc, if_pos trivial]
    exact ih (i + 1) k P ys (by omega) (by omega) (by omega) hrys hrc2.2 hpre2
   ·
    rw [if_neg hc]
    simp only [r09_Apply.j2]
    rw [if_neg (by decide), if_neg hc, if_pos (by omega), if_pos (by omega), if_pos (by rw [hl1]; omega), hs1, w64s (by omega), if_neg hc]
    exact ih (i + 1) k (P ++ [cs[i].f0]) ys (by omega) (by omega) (by rw [List.length_append, List.length_singleton]; omega) hrys hrc2.2 hpre3
  ·
   have hr2 : r = -1 := by
    rcases hrr with ⟨h, _⟩ | ⟨j, hj, rfl, hkj⟩
    ·
     exact h
    ·
     exfalso
     have hm : (out ++ rest)[j] ∈ (out ++ ahead cs[i] rest) ++ behind cs[i] rest := by rw [← hsplit]; exact List.getElem_mem hj
     rcases List.mem_append.1 hm with hm | hm
     ·
      have := hpre _ hm
      rw [hkj, show key cs[i].f0 = ck cs[i] from rfl, lt_irrefl] at this
      cases this
     ·
      exact hno _ hm hkj
   subst hr2
   have hpast : past cs[i] (behind cs[i] rest) = behind cs[i] rest := by unfold past; rw [if_neg (by rw [ht]; decide)]
   rw [apP, hpast, ht]
   by_cases hc : cs[i].f1 = true
   ·
    rw [if_pos hc, if_pos hc, if_neg (by decide)]
    simp only [r09_Apply.j2]
    rw [if_pos (by decide)]
   ·
    rw [if_neg hc, if_neg hc]
    simp only [r09_Apply.j2]
    rw [if_neg (by decide), if_neg hc, if_neg (by decide)]
    refine rap_l1 cs[i] cs i (by omega) _ (d * B + B + 1) (out ++ rest) [] k (by rw [List.length_append]; omega) (by simp; omega) fun k' hk' => ?_
    obtain ⟨e1, e2⟩ := ahead_app (rest := rest) hoc
    rw [e1, e2, List.nil_append]
    exact ih (i + 1) k' (out ++ ahead cs[i] rest ++ [cs[i].f0]) (behind cs[i] rest) (by omega) (by omega) (by rw [List.length_append, List.length_append, List.length_singleton]; omega) hrb hrc2.2 hpre3
theorem rightC_rise {l : List Ch} (h : rightC l = true) : RiseC l := by
 have h1 := (riseB_iff _).mp (Bool.and_eq_true_iff.mp (Bool.and_eq_true_iff.mp h).2).1
 exact List.pairwise_map.1 h1
theorem rapply_eq {l : List Rw} {c : List Ch} (sl : ShR l) (ll : l.length ≤ 500) (sc : ShR (c.map (·.f0))) (lc : c.length ≤ 500) {k : Nat} (hk : 2000000 ≤ k) : r09_Apply.f k l c = some (applyS l c) := by
 obtain ⟨m, rfl⟩ : ∃ m, k = m + 1 := ⟨k - 1, by omega⟩
 unfold r09_Apply.f applyS
 rw [(right_eq sl (by omega) (by omega)).2, Option.bind_some]
 by_cases h : rightS l = true
 ·
  rw [if_pos h, if_pos h, rcright_eq sc (by omega) (by omega), Option.bind_some]
  simp only [r09_Apply.j0]
  by_cases h2 : rightC c = true
  ·
   rw [if_pos h2, h2, if_neg (by decide), Option.bind_some, if_pos (by simp; omega)]
   exact rap_l0 (by omega) 2100 (Nat.le_refl _) c.length 0 m [] l (by omega) (by omega) (by simp; omega) ((riseB_iff l).mp (Bool.and_eq_true_iff.mp h).1) (by rw [List.drop_zero]; exact rightC_rise h2) (fun x hx => by simp at hx)
  ·
   rw [if_neg h2, Bool.eq_false_iff.2 h2, if_pos (by decide)]
 ·
  rw [if_neg h, if_neg h]
  simp only [r09_Apply.j0]
  rw [if_pos trivial]
end Go.Proofs.YtgcbejidponoaaaGreatDoor.Pure
end
section
namespace Go.Proofs.YtgcbejidponoaaaGreatDoor.Pure
open Go.RowKit Go.Proofs.YtgcbejidponoaaaGreatDoor.X Go.Proofs.YtgcbejidponoaaaGreatDoorW.PrintWords Go.Proofs.YtgcbejidponoaaaGreatDoorW.PrintLast Go.Proofs.YtgcbejidponoaaaGreatDoorW.PrintMore Go.Proofs.YtgcbejidponoaaaGreatDoor.Aid Go.Proofs.YtgcbejidponoaaaGreatDoor.Bytes
theorem cgreat_l0 {l : List Ch} (hl : l.length ≤ 100000) (d : Nat) : ∀ (i k : Nat), i + d = l.length → d < k → ∃ r, r09_Great.l0 k l (i : Int) = some r ∧ (r = false → ∀ x ∈ l.drop i, x.f0.f1.size ≤ 300) := by
 induction d with
 | zero =>
  intro i k hi hk
  obtain ⟨k, rfl⟩ := succ_of hk
  simp only [r09_Great.l0]
  rw [if_neg (by omega), List.drop_of_length_le (by omega)]
  exact ⟨_, rfl, fun _ x hx => absurd hx (by simp)⟩
 | succ d ih =>
  intro i k hi hk
  obtain ⟨k, rfl⟩ := succ_of hk
  have hlt : i < l.length := by omega
  simp only [r09_Great.l0]
  rw [if_pos (by omega), if_pos (by omega), w64s (by omega), rdC hlt]
  obtain ⟨r, hr, h2⟩ := ih (i + 1) k (by omega) (by omega)
  rw [hr]
  by_cases h : (l[i].f0.f1.size : Int) > 300
  ·
   rw [if_pos h]
   exact ⟨_, rfl, fun e => by cases e⟩
  ·
   rw [if_neg h]
   refine ⟨r, rfl, fun e x hx => ?_⟩
   rw [drop_at hlt, List.mem_cons] at hx
   rcases hx with rfl | hx
   ·
    omega
   ·
    exact h2 e x hx
def FineC (l : List Ch) : Prop := l.length ≤ 100 ∧ ∀ x ∈ l, GRow x.f0 ∧ x.f0.f1.size ≤ 300
theorem cgreat_eq (l : List Ch) (hq : ∀ x ∈ l, Q48 x) {k : Nat} (hk : 110 ≤ k) : r09_Great.f k l = some true ∨ (r09_Great.f k l = some false ∧ FineC l) := by
 unfold r09_Great.f
 by_cases h : (l.length : Int) > 100
 ·
  rw [if_pos h]
  exact .inl rfl
 ·
  rw [if_neg h]
  obtain ⟨r, h1, h2⟩ := cgreat_l0 (l := l) (by omega) l.length 0 k (by omega) (by omega)
  cases r
  ·
   refine .inr ⟨h1, by omega, fun x hx => ?_⟩
   have h3 := h2 rfl x hx
   have h4 := (hq x hx).1
   exact ⟨⟨wf64 h4.1, by omega, wf64 h4.2.2.1⟩, h3⟩
  ·
   exact .inl h1
theorem fineC_sh {l : List Ch} (h : FineC l) : ShR (l.map (·.f0)) := fun x hx => by
 obtain ⟨c, hc, rfl⟩ := List.mem_map.1 hx
 have := (h.2 c hc).2
 omega
theorem fineC_good {l : List Ch} (h : FineC l) : GCh l := ⟨by have := h.1; omega, fun c hc => (h.2 c hc).1⟩
theorem apP_len : ∀ (cs : List Ch) (out rest : List Rw), (apP cs out rest).1.length ≤ out.length + rest.length + cs.length
 | [], out, rest => by rw [apP, List.length_append]; simp
 | c :: cs, out, rest => by
  have h1 := len_ab c rest
  have h2 := past_len c (behind c rest)
  have h3 := apP_len cs (out ++ ahead c rest) (past c (behind c rest))
  have h4 := apP_len cs (out ++ ahead c rest ++ [c.f0]) (past c (behind c rest))
  simp only [List.length_append, List.length_singleton] at h3 h4
  rw [apP, List.length_cons]
  split
  ·
   split
   ·
    omega
   ·
    simp
  ·
   omega
theorem applyS_len (l : List Rw) (c : List Ch) : (applyS l c).1.length ≤ l.length + c.length := by
 unfold applyS
 split
 ·
  split
  ·
   have := apP_len c [] l
   simpa using this
  ·
   simp
 ·
  simp
theorem DiffApplies : w09_DiffApplies.Pure := by
 intro l c d ql _ qc _ qd _
 obtain ⟨K, hK⟩ : ∃ K : Nat, 2000000 ≤ K := ⟨_, Nat.le_refl _⟩
 refine ⟨K + 1, ?_⟩
 unfold w09_DiffApplies.f
 rw [alive_eq _ (by omega), Option.bind_some, if_pos rfl]
 rcases rgreat_eq l ql.2 (k := K + 1) (by omega) with h | ⟨h, fl⟩
 ·
  rw [h, Option.bind_some, if_pos rfl, w09_DiffApplies.j0, if_pos rfl]
 ·
  rw [h, Option.bind_some, if_neg (by decide)]
  rcases cgreat_eq c qc.2 (k := K + 1) (by omega) with h2 | ⟨h2, fc⟩
  ·
   rw [h2, Option.bind_some, if_pos rfl, w09_DiffApplies.j0, if_pos rfl]
  ·
   rw [h2, Option.bind_some, if_neg (by decide)]
   rcases cgreat_eq d qd.2 (k := K + 1) (by omega) with h3 | ⟨h3, fd⟩
   ·
    rw [h3, Option.bind_some, w09_DiffApplies.j0, if_pos rfl]
   ·
    have ll := fl.1
    have lc := fc.1
    have ld := fd.1
    have hr := applyS_len l c
    rw [h3, Option.bind_some, w09_DiffApplies.j0, if_neg (by decide), Option.bind_some, if_pos (by simp; omega), Option.bind_some, List.nil_append, apply_eq (fine_sh fl) (by omega) (fineC_sh fc) (by omega) (by omega), Option.bind_some, rapply_eq (fine_sh fl) (by omega) (fineC_sh fc) (by omega) (by omega), Option.bind_some, sameR_eq (by omega) (by omega), Option.bind_some, if_pos (by simp), if_pos rfl, sameR_eq (by omega) (by omega), Option.bind_some, if_pos (by simp)]
    rw [(sameC_eq (by omega) (by omega)).2, Option.bind_some, (sameC_eq (by omega) (by omega)).1, Option.bind_some, if_pos (by simp), ctext_eq (fineC_good fc) (by omega), Option.bind_some, rctext_eq (fineC_good fc) (by omega), Option.bind_some]
    simp
end Go.Proofs.YtgcbejidponoaaaGreatDoor.Pure
end
