/- The plain law of WordApart: values, joined by what can't stand in them, are split as they were. No condition of its own. -/
import Derived.Test.YtigkkkhkejcakaaDoorPureWordParts
import Derived.Test.YtigkkkhkejcakaaDoorXx7
namespace Go.Proofs.YtigkkkhkejcakaaDoor.Pure
open Go.RowKit Go.Proofs.YtigkkkhkejcakaaDoor.X Go.Proofs.YtigkkkhkejcakaaDoorW.PrintWords Go.Proofs.YtigkkkhkejcakaaDoorW.PrintLast Go.Proofs.YtigkkkhkejcakaaDoorW.PrintMore Go.Proofs.YtigkkkhkejcakaaDoor.Aid Go.Proofs.YtigkkkhkejcakaaDoor.Bytes

theorem spl_no (c : UInt8) (x : T) (h : c ∉ x) : spl c x = [x] := by
  induction x with
  | nil => rfl
  | cons y x ih =>
    rw [List.mem_cons, not_or] at h
    rw [spl_cons, if_neg (fun e => h.1 e.symm), ih h.2]
    rfl
theorem spl_app (c : UInt8) (x y : T) (h : c ∉ x) : spl c (x ++ c :: y) = x :: spl c y := by
  induction x with
  | nil => rw [List.nil_append, spl_cons, if_pos rfl]
  | cons z x ih =>
    rw [List.mem_cons, not_or] at h
    rw [List.cons_append, spl_cons, if_neg (fun e => h.1 e.symm), ih h.2]
    rfl
theorem spl_join (c : UInt8) : ∀ (L : List T), L ≠ [] → (∀ x ∈ L, c ∉ x) → spl c (Lib.join L [c]) = L
  | [], h, _ => absurd rfl h
  | [x], _, h => by rw [Lib.join_one, spl_no c x (h x List.mem_cons_self)]
  | x :: y :: L, _, h => by
    have ih := spl_join c (y :: L) (by simp) (fun z hz => h z (List.mem_cons_of_mem _ hz))
    rw [Lib.join_cons] at ih
    rw [Lib.join_cons, tail_cons, List.append_assoc, List.singleton_append, spl_app c x _ (h x List.mem_cons_self), ih]
theorem full_all : ∀ (L : List T), (∀ x ∈ L, x ≠ []) → full L = L
  | [], _ => rfl
  | x :: L, h => by rw [full_cons, if_neg (h x List.mem_cons_self), full_all L (fun y hy => h y (List.mem_cons_of_mem _ hy))]
theorem val_free {c : UInt8} (hc : isVal [c] = false) {x : T} (hx : isVal x = true) : x ≠ [] ∧ c ∉ x := by
  unfold isVal at hx hc
  rw [Bool.and_eq_true, Bool.and_eq_true, decide_eq_true_eq] at hx
  refine ⟨hx.1, fun h => ?_⟩
  have := List.all_eq_true.mp hx.2.2 c h
  rw [List.all_cons, this] at hc
  simp at hc
theorem apart_end (L : List T) (c : UInt8) (hn : L.length ≤ 100) (ht : tot L ≤ 5000) (h0 : L ≠ []) (hc : isVal [c] = false) (hv : ∀ x ∈ L, isVal x = true) (k : Nat) (hk : 30000 < k) :
    ebbtidelaw02_WordApart.l0 k (L.map mk) (c.toNat : Int) (L.length : Int) = some true := by
  obtain ⟨k, rfl⟩ := succ_of hk
  have hs := spl_join c L h0 (fun x hx => (val_free hc (hv x hx)).2)
  have hj := join_len [c] L
  rw [List.length_singleton, Nat.mul_one] at hj
  simp only [ebbtidelaw02_WordApart.l0, List.length_map]
  rw [if_neg (by omega), one_mk, join_eq (by omega) (by omega)]
  simp only [Option.bind_some]
  rw [split_eq c (by omega) k (by omega), hs]
  simp only [Option.bind_some]
  rw [same_eq (by omega) k (by omega)]
  simp only [Option.bind_some, decide_true, if_true]
  by_cases h : (c.toNat : Int) = 32
  · have e : c = 32 := byte_eq.mp h
    subst e
    rw [if_pos h, fields_eq (by omega) k (by omega), hs, full_all L (fun x hx => (val_free hc (hv x hx)).1)]
    simp only [Option.bind_some]
    rw [same_eq (by omega) k (by omega)]
    simp
  · rw [if_neg h]
theorem tot_mem {L : List T} {x : T} (h : x ∈ L) : x.length ≤ tot L := by
  induction L with
  | nil => exact absurd h (by simp)
  | cons y L ih =>
    rw [tot_cons]
    rcases List.mem_cons.mp h with e | e
    · rw [e]; omega
    · have := ih e; omega
theorem apart_l0 (L : List T) (c : UInt8) (hn : L.length ≤ 100) (ht : tot L ≤ 5000) (h0 : L ≠ []) (hc : isVal [c] = false) (d : Nat) : ∀ (i k : Nat), i + d = L.length → d + 30000 < k → (∀ x ∈ L.take i, isVal x = true) →
    ebbtidelaw02_WordApart.l0 k (L.map mk) (c.toNat : Int) (i : Int) = some true := by
  induction d with
  | zero =>
    intro i k hi hk hv
    rw [List.take_of_length_le (by omega)] at hv
    have e : i = L.length := by omega
    rw [e]
    exact apart_end L c hn ht h0 hc hv k (by omega)
  | succ d ih =>
    intro i k hi hk hv
    obtain ⟨k, rfl⟩ := succ_of hk
    have hlt : i < L.length := by omega
    have hl := tot_mem (List.getElem_mem hlt)
    simp only [ebbtidelaw02_WordApart.l0, List.length_map]
    rw [if_pos (by omega), if_pos (by omega), rds hlt, rvalue_eq (by omega) k (by omega), w64s (by omega)]
    simp only [Option.bind_some]
    by_cases h : isVal L[i] = true
    · rw [if_pos h]
      refine ih (i + 1) k (by omega) (by omega) (fun x hx => ?_)
      rw [take_at hlt] at hx
      rcases List.mem_append.mp hx with e | e
      · exact hv x e
      · rw [List.mem_singleton.mp e]; exact h
    · rw [if_neg h]
theorem WordApart : ebbtidelaw02_WordApart.Pure := by
  intro l2 a hq _ ha
  obtain ⟨c, rfl⟩ := byte_of ha
  obtain ⟨L, rfl⟩ := strs_mk l2
  have hx : ∀ x ∈ L, x.length ≤ 140737488351232 := fun x hx => by
    have := hq.2 (mk x) (List.mem_map_of_mem hx)
    rw [mk_size] at this
    exact this
  obtain ⟨K, hK⟩ : ∃ K : Nat, K = 40010 := ⟨_, rfl⟩
  refine ⟨K, ?_⟩
  unfold ebbtidelaw02_WordApart.f
  rw [alive_eq K (by omega)]
  simp only [Option.bind_some, if_true]
  obtain ⟨k, hk⟩ : ∃ k, K = k + 1 := ⟨K - 1, by omega⟩
  subst hk
  rcases great_eq L hx (k + 1) (by omega) with hg | ⟨hg, h1, h2⟩
  · rw [hg]
    simp only [Option.bind_some, if_true, ebbtidelaw02_WordApart.j0]
  · rw [hg]
    simp only [Option.bind_some]
    rw [if_neg (by simp), List.length_map]
    simp only [ebbtidelaw02_WordApart.j0]
    by_cases h0 : L = []
    · subst h0
      rw [if_pos (by simp)]
    · have hp : L.length ≠ 0 := fun e => h0 (List.eq_nil_of_length_eq_zero e)
      rw [if_neg (by simp; omega), one_mk, rvalue_eq (by simp) k (by simp; omega)]
      simp only [Option.bind_some]
      by_cases hc : isVal [c] = true
      · rw [if_pos hc]
      · rw [if_neg hc]
        exact apart_l0 L c h1 h2 h0 (Bool.eq_false_iff.mpr hc) L.length 0 k (by omega) (by omega) (fun x hx => by simp at hx)
end Go.Proofs.YtigkkkhkejcakaaDoor.Pure
