/- The plain law of WordParts: a text's parts, and texts joined, are alike in both. No condition of its own. -/
import Derived.Test.YtigkkkhkejcakaaDoorWordPlain
import Derived.Test.YtigkkkhkejcakaaDoorXx5
import Derived.Test.YtigkkkhkejcakaaDoorXx4
import Derived.Test.YtigkkkhkejcakaaDoorXx4
import Derived.Test.YtigkkkhkejcakaaDoorXx5
import Derived.Test.YtigkkkhkejcakaaDoorXx4
namespace Go.Proofs.YtigkkkhkejcakaaDoor.Pure
open Go.RowKit Go.Proofs.YtigkkkhkejcakaaDoor.X Go.Proofs.YtigkkkhkejcakaaDoorW.PrintWords Go.Proofs.YtigkkkhkejcakaaDoorW.PrintLast Go.Proofs.YtigkkkhkejcakaaDoorW.PrintMore Go.Proofs.YtigkkkhkejcakaaDoor.Aid Go.Proofs.YtigkkkhkejcakaaDoor.Bytes

theorem rsplit_l0 (c : UInt8) {l : T} (hl : l.length ≤ 20000) (d : Nat) : ∀ (i from_ k : Nat) (acc : List T), i + d = l.length → from_ ≤ i → d < k → acc.length ≤ i →
    ebbtideref02_Split.l0 k (mk l) (c.toNat : Int) (acc.map mk) (from_ : Int) (i : Int) = some ((acc ++ glue ((l.drop from_).take (i - from_)) (spl c (l.drop i))).map mk) := by
  induction d with
  | zero =>
    intro i f k acc hi hf hk ha
    obtain ⟨k, rfl⟩ := succ_of hk
    simp only [ebbtideref02_Split.l0]
    have he := mk_from l f
    rw [mk_size] at he
    rw [mk_size, if_neg (by omega), if_pos (by omega), if_pos (by omega), List.length_map, if_pos (by omega), Int.toNat_natCast, he, List.drop_of_length_le (show l.length ≤ i by omega), List.take_of_length_le (by rw [List.length_drop]; omega)]
    simp [spl, glue]
  | succ d ih =>
    intro i f k acc hi hf hk ha
    obtain ⟨k, rfl⟩ := succ_of hk
    have hlt : i < l.length := by omega
    have hd : l.drop i = l[i] :: l.drop (i + 1) := drop_at hlt
    have hm : (acc.map mk) ++ [mk ((l.drop f).take (i - f))] = (acc ++ [(l.drop f).take (i - f)]).map mk := by simp
    have h1 := ih (i + 1) (i + 1) k (acc ++ [(l.drop f).take (i - f)]) (by omega) (Nat.le_refl _) (by omega) (by rw [List.length_append, List.length_singleton]; omega)
    have h2 := ih (i + 1) f k acc (by omega) (by omega) (by omega) (by omega)
    simp only [ebbtideref02_Split.l0]
    rw [mk_size, if_pos (by omega), if_pos (by omega), bt_mk hlt, w64s (by omega), h2, hd, spl_cons]
    by_cases h : l[i] = c
    · rw [if_pos (byte_eq.mpr h), if_pos h, if_pos (by omega), if_pos (by omega), if_pos (by omega), List.length_map, if_pos (by omega), Int.toNat_natCast, Int.toNat_natCast, mk_extract, hm, h1, Nat.sub_self, List.take_zero, glue_nil (spl_ne c _)]
      simp [glue]
    · rw [if_neg (fun e => h (byte_eq.mp e)), if_neg h, glue_glue]
      have ht : (l.drop f).take (i + 1 - f) = (l.drop f).take (i - f) ++ [l[i]] := by
        have hj : i - f < (l.drop f).length := by rw [List.length_drop]; omega
        rw [show i + 1 - f = (i - f) + 1 by omega, take_at hj, List.getElem_drop]
        simp [show f + (i - f) = i by omega]
      rw [ht]
theorem rsplit_eq (c : UInt8) {l : T} (hl : l.length ≤ 20000) (k : Nat) (hk : 20010 < k) : ebbtideref02_Split.f k (mk l) (c.toNat : Int) = some ((spl c l).map mk) := by
  have h := rsplit_l0 c hl l.length 0 0 k [] (by omega) (Nat.le_refl _) (by omega) (Nat.le_refl _)
  rw [List.drop_zero, Nat.sub_self, List.take_zero, glue_nil (spl_ne c l)] at h
  exact h
theorem rfields_l0 {L : List T} (hn : L.length < 100000) (d : Nat) : ∀ (i k : Nat) (acc : List T), i + d = L.length → d < k → acc.length ≤ i → ebbtideref02_Fields.l0 k (acc.map mk) (L.map mk) (i : Int) = some ((acc ++ full (L.drop i)).map mk) := by
  induction d with
  | zero =>
    intro i k acc hi hk _
    obtain ⟨k, rfl⟩ := succ_of hk
    simp only [ebbtideref02_Fields.l0, List.length_map]
    rw [if_neg (by omega), List.drop_of_length_le (by omega)]
    simp [full]
  | succ d ih =>
    intro i k acc hi hk ha
    obtain ⟨k, rfl⟩ := succ_of hk
    have hlt : i < L.length := by omega
    have hm : (acc.map mk) ++ [mk L[i]] = (acc ++ [L[i]]).map mk := by simp
    simp only [ebbtideref02_Fields.l0, List.length_map]
    rw [if_pos (by omega), if_pos (by omega), rds hlt, mk_toList, w64s (by omega), drop_at hlt, full_cons, hm, if_pos (show acc.length < 8796093022208 by omega), ih (i + 1) k acc (by omega) (by omega) (by omega), ih (i + 1) k (acc ++ [L[i]]) (by omega) (by omega) (by rw [List.length_append, List.length_singleton]; omega)]
    by_cases h : L[i] = []
    · rw [if_pos h, if_pos h]
    · rw [if_neg h, if_neg h, List.append_assoc]
      rfl
theorem rfields_eq {l : T} (hl : l.length ≤ 20000) (k : Nat) (hk : 20010 < k) : ebbtideref02_Fields.f k (mk l) = some ((full (spl 32 l)).map mk) := by
  have h1 := rsplit_eq 32 hl k hk
  have hs := spl_len 32 l
  unfold ebbtideref02_Fields.f
  rw [show (32 : Int) = ((32 : UInt8).toNat : Int) from rfl, h1]
  simp only [Option.bind_some]
  exact rfields_l0 (L := spl 32 l) (by omega) (spl 32 l).length 0 k [] (by omega) (by omega) (Nat.le_refl _)
/-- How many bytes. -/
def tot (L : List T) : Nat := L.flatten.length
theorem tot_cons (x : T) (L : List T) : tot (x :: L) = x.length + tot L := by simp [tot]
theorem great_l0 {L : List T} (hn : L.length ≤ 100) (d : Nat) : ∀ (i k n : Nat), i + d = L.length → d < k → n ≤ 5000 + 140737488355328 → (∀ x ∈ L, x.length ≤ 140737488351232) → ebbtidelaw02_great.l0 k (L.map mk) (n : Int) (i : Int) = some true ∨ (ebbtidelaw02_great.l0 k (L.map mk) (n : Int) (i : Int) = some false ∧ n + tot (L.drop i) ≤ 5000) := by
  induction d with
  | zero =>
    intro i k n hi hk _ _
    obtain ⟨k, rfl⟩ := succ_of hk
    simp only [ebbtidelaw02_great.l0, List.length_map]
    rw [if_neg (by omega), List.drop_of_length_le (by omega)]
    by_cases h : n > 5000
    · exact .inl (by rw [decide_eq_true (by omega)])
    · exact .inr ⟨by rw [decide_eq_false (by omega)], by simp [tot]; omega⟩
  | succ d ih =>
    intro i k n hi hk hb hx
    obtain ⟨k, rfl⟩ := succ_of hk
    have hlt : i < L.length := by omega
    have hlen := hx _ (List.getElem_mem hlt)
    simp only [ebbtidelaw02_great.l0, List.length_map]
    rw [if_pos (by omega)]
    by_cases h : n > 5000
    · rw [if_neg (by omega)]
      exact .inl (by rw [decide_eq_true (by omega)])
    · rw [if_pos (by omega), if_pos (by omega), rds hlt, mk_size, w64s (by omega), w64 (by omega) (by omega), drop_at hlt, tot_cons]
      rcases ih (i + 1) k (n + L[i].length) (by omega) (by omega) (by omega) hx with h1 | ⟨h1, h2⟩
      · rw [Int.natCast_add] at h1
        exact .inl h1
      · rw [Int.natCast_add] at h1
        exact .inr ⟨h1, by omega⟩
theorem great_eq (L : List T) (hx : ∀ x ∈ L, x.length ≤ 140737488351232) (k : Nat) (hk : 110 < k) : ebbtidelaw02_great.f k (L.map mk) = some true ∨ (ebbtidelaw02_great.f k (L.map mk) = some false ∧ L.length ≤ 100 ∧ tot L ≤ 5000) := by
  unfold ebbtidelaw02_great.f
  rw [List.length_map]
  by_cases h : (L.length : Int) > 100
  · rw [if_pos h]
    exact .inl rfl
  · rw [if_neg h]
    rcases great_l0 (L := L) (by omega) L.length 0 k 0 (by omega) (by omega) (by omega) hx with h1 | ⟨h1, h2⟩
    · exact .inl h1
    · rw [List.drop_zero, Nat.zero_add] at h2
      exact .inr ⟨h1, by omega, h2⟩
theorem tail_cons (s x : T) (L : List T) : Lib.joinTail s (x :: L) = s ++ x ++ Lib.joinTail s L := by simp [Lib.joinTail]
theorem tail_len (s : T) (L : List T) : (Lib.joinTail s L).length = L.length * s.length + tot L := by
  induction L with
  | nil => simp [Lib.joinTail, tot]
  | cons x L ih =>
    have : Lib.joinTail s (x :: L) = s ++ x ++ Lib.joinTail s L := by simp [Lib.joinTail]
    rw [this, tot_cons, List.length_append, List.length_append, ih, List.length_cons, Nat.succ_mul]
    omega
theorem join_len (s : T) (L : List T) : (Lib.join L s).length ≤ L.length * s.length + tot L := by
  cases L with
  | nil => simp [Lib.join_nil]
  | cons x L =>
    rw [Lib.join_cons, List.length_append, tail_len, tot_cons, List.length_cons, Nat.succ_mul]
    omega
theorem rjoin_l0 {L : List T} {s : T} (hn : L.length ≤ 100) (d : Nat) : ∀ (i k : Nat) (acc : T), i + d = L.length → d < k → 0 < i → acc.length + d * s.length + tot (L.drop i) ≤ 200000 →
    ebbtideref02_Join.l0 k (mk s) (L.map mk) (mk acc) (i : Int) = some (mk (acc ++ Lib.joinTail s (L.drop i))) := by
  induction d with
  | zero =>
    intro i k acc hi hk _ _
    obtain ⟨k, rfl⟩ := succ_of hk
    simp only [ebbtideref02_Join.l0, List.length_map]
    rw [if_neg (by omega), List.drop_of_length_le (by omega)]
    simp [Lib.joinTail]
  | succ d ih =>
    intro i k acc hi hk h0 hb
    obtain ⟨k, rfl⟩ := succ_of hk
    have hlt : i < L.length := by omega
    rw [drop_at hlt, tot_cons, Nat.succ_mul] at hb
    simp only [ebbtideref02_Join.l0, List.length_map]
    rw [if_pos (by omega), if_pos (by omega), mk_append, rds hlt, mk_append, mk_size, mk_size, mk_size, mk_size, List.length_append, if_pos (by omega), if_pos (by omega), if_pos (by omega), w64s (by omega), ih (i + 1) k _ (by omega) (by omega) (by omega) (by rw [List.length_append, List.length_append]; omega), drop_at hlt, tail_cons]
    simp only [List.append_assoc]
theorem rjoin_eq {L : List T} {s : T} (hn : L.length ≤ 100) (hs : s.length ≤ 1000) (ht : tot L ≤ 5000) (k : Nat) (hk : 200 < k) : ebbtideref02_Join.f k (mk s) (L.map mk) = some (mk (Lib.join L s)) := by
  obtain ⟨k, rfl⟩ := succ_of hk
  have hm : L.length * s.length ≤ 100 * 1000 := Nat.mul_le_mul hn hs
  unfold ebbtideref02_Join.f
  simp only [ebbtideref02_Join.l0, List.length_map]
  cases L with
  | nil =>
    rw [if_neg (by simp)]
    rfl
  | cons x L =>
    rw [tot_cons] at ht
    rw [List.length_cons, Nat.succ_mul] at hm
    have he : ∀ y : ByteArray, (⟨#[]⟩ : ByteArray) ++ y = y := fun y => by
      have := mk_append [] y.data.toList
      rw [mk_eta, List.nil_append, mk_eta] at this
      exact this
    have hr : rdOf ByteArray.empty ((x :: L).map mk) 0 = mk x := rds (L := x :: L) (i := 0) (by simp)
    rw [if_pos (by simp only [List.length_cons]; omega), if_neg (by omega), if_pos (by omega), hr, he, mk_size, if_pos (by show 0 + x.length ≤ _; omega)]
    have h := rjoin_l0 (L := x :: L) (s := s) hn L.length 1 k x (by rw [List.length_cons]; omega) (by simp at hn; omega) (by omega) (by rw [List.drop_succ_cons, List.drop_zero]; omega)
    rw [List.drop_succ_cons, List.drop_zero, ← Lib.join_cons] at h
    rw [show wrap64 (0 + 1) = ((1 : Nat) : Int) from by unfold wrap64; omega]
    exact h
theorem parts_j0_true (s : ByteArray) (a : Int) (l : List ByteArray) (k : Nat) (hk : 0 < k) : ebbtidelaw02_WordParts.j0 k s a l true = some true := by
  obtain ⟨k, rfl⟩ := succ_of hk
  simp only [ebbtidelaw02_WordParts.j0]
  rfl
theorem parts_j0 (l : T) (c : UInt8) (L : List T) (hl : l.length ≤ 1000) (hn : L.length ≤ 100) (ht : tot L ≤ 5000) (k : Nat) (hk : 30000 < k) : ebbtidelaw02_WordParts.j0 k (mk l) (c.toNat : Int) (L.map mk) false = some true := by
  obtain ⟨k, rfl⟩ := succ_of hk
  have h1 := spl_len c l
  have h2 := spl_len 32 l
  have h3 := full_len (spl 32 l)
  have h4 := join_len l L
  have hm : L.length * l.length ≤ 100 * 1000 := Nat.mul_le_mul hn hl
  simp only [ebbtidelaw02_WordParts.j0, Option.bind_some, List.nil_append]
  rw [if_neg (by simp), if_pos (by simp; omega), split_eq c (by omega) k (by omega), rsplit_eq c (by omega) k (by omega)]
  simp only [Option.bind_some]
  rw [same_eq (by omega) k (by omega)]
  simp only [Option.bind_some, decide_true, if_true]
  rw [fields_eq (by omega) k (by omega), rfields_eq (by omega) k (by omega)]
  simp only [Option.bind_some]
  rw [same_eq (by omega) k (by omega)]
  simp only [Option.bind_some, decide_true, if_true]
  rw [join_eq (by omega) (by omega), rjoin_eq hn hl ht k (by omega)]
  simp only [Option.bind_some, if_true]
  rw [same_eq (by omega) k (by omega)]
  simp
theorem WordParts : ebbtidelaw02_WordParts.Pure := by
  intro s a l2 _ ha hq _
  obtain ⟨l, rfl⟩ := str_mk s
  obtain ⟨c, rfl⟩ := byte_of ha
  obtain ⟨L, rfl⟩ := strs_mk l2
  have hx : ∀ x ∈ L, x.length ≤ 140737488351232 := fun x hx => by
    have := hq.2 (mk x) (List.mem_map_of_mem hx)
    rw [mk_size] at this
    exact this
  obtain ⟨K, hK⟩ : ∃ K : Nat, K = 30010 := ⟨_, rfl⟩
  refine ⟨K, ?_⟩
  unfold ebbtidelaw02_WordParts.f
  rw [alive_eq K (by omega)]
  simp only [Option.bind_some, if_true]
  rw [mk_size]
  by_cases h : (l.length : Int) > 1000
  · rw [if_pos h, parts_j0_true _ _ _ K (by omega)]
  · rw [if_neg h]
    rcases great_eq L hx K (by omega) with hg | ⟨hg, h1, h2⟩
    · rw [hg]
      simp only [Option.bind_some]
      rw [parts_j0_true _ _ _ K (by omega)]
    · rw [hg]
      simp only [Option.bind_some]
      rw [parts_j0 l c L (by omega) h1 h2 K (by omega)]
end Go.Proofs.YtigkkkhkejcakaaDoor.Pure
