/- The plain law of ChainFolds: samples, folded one by one, are told at each one's stamp as all up to it. No condition of its own. -/
import Derived.Test.YthphlphkmfgkdaaChainPlain
import Derived.Test.YthphlphkmfgkdaaXx20
import Derived.Test.YthphlphkmfgkdaaXx8
namespace Go.Proofs.Ythphlphkmfgkdaa.Pure
open Go.RowKit Go.Proofs.Ythphlphkmfgkdaa.X Go.Proofs.YthphlphkmfgkdaaW.PrintWords Go.Proofs.YthphlphkmfgkdaaW.PrintLast Go.Proofs.YthphlphkmfgkdaaW.PrintMore Go.Proofs.Ythphlphkmfgkdaa.Aid

/-- The versions that the first samples make. -/
def vs (l : List Int) : Nat → List W
  | 0 => []
  | i + 1 => vs l i ++ [⟨((i + 1 : Nat) : Int), ec (cof (l.take (i + 1)))⟩]
theorem vs_succ (l : List Int) (i : Nat) : vs l (i + 1) = vs l i ++ [⟨((i + 1 : Nat) : Int), ec (cof (l.take (i + 1)))⟩] := rfl
theorem vs_len (l : List Int) (i : Nat) : (vs l i).length = i := by
  induction i with
  | zero => rfl
  | succ i ih => rw [vs_succ, List.length_append, List.length_singleton, ih]
def lastf (c : Int) (a : List W) : Int := a.foldl (fun _ x => x.f0) c
theorem right_snoc {x : W} (a : List W) : ∀ (c : Int), rightFrom c a = true → lastf c a < x.f0 → x.f0 ≤ 1000000000000000 → rightFrom c (a ++ [x]) = true := by
  induction a with
  | nil =>
    intro c _ h1 h2
    have h1' : c < x.f0 := h1
    rw [List.nil_append, right_cons, if_neg (by omega), if_neg (by omega)]
    rfl
  | cons y a ih =>
    intro c h h1 h2
    rw [right_cons] at h
    rw [List.cons_append, right_cons]
    by_cases c1 : y.f0 ≤ c
    · rw [if_pos c1] at h; exact absurd h (by simp)
    · rw [if_neg c1] at h ⊢
      by_cases c2 : y.f0 > 1000000000000000
      · rw [if_pos c2] at h; exact absurd h (by simp)
      · rw [if_neg c2] at h ⊢
        exact ih y.f0 h h1 h2
theorem vs_last (l : List Int) (i : Nat) : lastf 0 (vs l i) = (i : Int) := by
  cases i with
  | zero => rfl
  | succ i => rw [vs_succ, lastf, List.foldl_append]; rfl
theorem vs_right (l : List Int) (i : Nat) (h : i ≤ 100) : rightFrom 0 (vs l i) = true := by
  induction i with
  | zero => rfl
  | succ i ih =>
    rw [vs_succ]
    refine right_snoc _ 0 (ih (by omega)) ?_ ?_
    · rw [vs_last]; simp only; omega
    · simp only; omega
theorem vs_at (l : List Int) (i : Nat) : ∀ j : Nat, j ≤ i → atf (j : Int) zc (vs l i) = cof (l.take j) := by
  induction i with
  | zero =>
    intro j hj
    have : j = 0 := by omega
    subst this
    rfl
  | succ i ih =>
    intro j hj
    rw [vs_succ, atf_snoc]
    by_cases h : j = i + 1
    · subst h
      rw [if_pos (Int.le_refl _)]
      rfl
    · rw [if_neg (by simp only; omega)]
      exact ih j (by omega)
theorem cof_succ {l : List Int} {i : Nat} (h : i < l.length) : cof (l.take (i + 1)) = cfold (cof (l.take i)) l[i] := by
  unfold cof
  rw [take_at h, List.foldl_append]
  rfl
theorem vs_rd (l : List Int) (i : Nat) : rd_T40 (vs l (i + 1)) (i : Int) = ⟨((i + 1 : Nat) : Int), ec (cof (l.take (i + 1)))⟩ := by
  have hlt : i < (vs l (i + 1)).length := by rw [vs_len]; omega
  rw [rdW hlt]
  have := vs_len l i
  simp [vs_succ, List.getElem_append_right, this]
theorem fold_vs {l : List Int} (hl : ∀ x ∈ l, inr x) {i : Nat} (hi : i < l.length) (hn : l.length ≤ 100) (k : Nat) (hk : 200 < k) :
    chain_Fold.f k (vs l i) ((i + 1 : Nat) : Int) l[i] = some (vs l (i + 1), 0) := by
  have hx : inr l[i] := hl _ (List.getElem_mem hi)
  have hW : ∀ j, WC (cof (l.take j)) := fun j => cof_wc (fun x hx => hl x (List.mem_of_mem_take hx))
  have hput : chain_Put.f k (vs l i) [⟨((i + 1 : Nat) : Int), ec (cof (l.take (i + 1)))⟩] = some (vs l (i + 1), 0) := by
    rw [push_eq (by rw [List.length_singleton, vs_len]; unfold LM; omega) k (by rw [List.length_singleton, vs_len]; omega), pushed, ← vs_succ, if_pos (vs_right l (i + 1) (by omega))]
  rw [cof_succ hi] at hput
  have h1 := fold_eq (hW i) hx k (by omega)
  unfold chain_Fold.f
  rw [vs_len]
  cases i with
  | zero =>
    rw [if_neg (by omega)]
    have h1' : cell_Fold.f k 0 0 false 0 0 l[0] = some (cfold (cof (l.take 0)) l[0]) := h1
    rw [h1']
    simp only [Option.bind_some]
    have hp' := hput
    unfold ec at hp'
    rw [hp']
    rfl
  | succ i =>
    have hi2 : (((i + 1 : Nat) : Int) - 1) = (i : Int) := by omega
    rw [if_pos (by omega), w64p (by omega), hi2, if_pos (by omega), if_pos (by omega), vs_rd]
    have h1' : cell_Fold.f k (ec (cof (l.take (i + 1)))).f0 (ec (cof (l.take (i + 1)))).f1.f0 (ec (cof (l.take (i + 1)))).f1.f1 (ec (cof (l.take (i + 1)))).f2 (ec (cof (l.take (i + 1)))).f3 l[i + 1] = some (cfold (cof (l.take (i + 1))) l[i + 1]) := h1
    rw [h1']
    simp only [Option.bind_some]
    have hp' := hput
    unfold ec at hp'
    rw [hp']
    rfl
theorem last_vs (l : List Int) (i : Nat) (h : i < 200) : chain_Last.f (vs l (i + 1)) = some ((i + 1 : Nat) : Int) := by
  have hi2 : (((i + 1 : Nat) : Int) - 1) = (i : Int) := by omega
  unfold chain_Last.f
  rw [vs_len, if_neg (by omega), w64p (by omega), hi2, if_pos (by omega), if_pos (by omega), vs_rd]
theorem folds_l1 {l : List Int} (hl : ∀ x ∈ l, inr x) (hn : l.length ≤ 100) (d : Nat) : ∀ (i k : Nat), i + d = l.length + 1 → d + 200 < k → ebbtidelaw10_ChainFolds.l1 k l (vs l l.length) (i : Int) = some true := by
  induction d with
  | zero =>
    intro i k hi hk
    obtain ⟨k, rfl⟩ := succ_of hk
    simp only [ebbtidelaw10_ChainFolds.l1]
    rw [if_neg (by omega), vs_len, beq_self_eq_true]
  | succ d ih =>
    intro i k hi hk
    obtain ⟨k, rfl⟩ := succ_of hk
    simp only [ebbtidelaw10_ChainFolds.l1]
    rw [if_pos (by omega), at_eq (by rw [vs_len]; unfold LM; omega) _ k (by rw [vs_len]; omega), vs_at l l.length i (by omega)]
    simp only [Option.bind_some]
    rw [if_pos (by omega), Int.toNat_natCast, rof_eq (fun x hx => hl x (List.mem_of_mem_take hx)) (by rw [List.length_take]; omega) k (by rw [List.length_take]; omega)]
    simp only [Option.bind_some]
    rw [if_neg (by simp), w64s (by omega)]
    exact ih (i + 1) k (by omega) (by omega)
theorem folds_l0 {l : List Int} (hl : ∀ x ∈ l, inr x) (hn : l.length ≤ 100) (d : Nat) : ∀ (i k : Nat), i + d = l.length → d + 600 < k → ebbtidelaw10_ChainFolds.l0 k l (vs l i) (i : Int) = some true := by
  induction d with
  | zero =>
    intro i k hi hk
    obtain ⟨k, rfl⟩ := succ_of hk
    have e : i = l.length := by omega
    simp only [ebbtidelaw10_ChainFolds.l0]
    rw [if_neg (by omega), e]
    exact folds_l1 hl hn (l.length + 1) 0 k (by omega) (by omega)
  | succ d ih =>
    intro i k hi hk
    obtain ⟨k, rfl⟩ := succ_of hk
    have hlt : i < l.length := by omega
    simp only [ebbtidelaw10_ChainFolds.l0]
    rw [if_pos (by omega), if_pos (by omega), w64s (by omega), rd_at hlt, fold_vs hl hlt hn k (by omega)]
    simp only [Option.bind_some, if_true]
    rw [last_vs l i (by omega)]
    simp only [Option.bind_some, if_true]
    exact ih (i + 1) k (by omega) (by omega)
theorem ChainFolds : ebbtidelaw10_ChainFolds.Pure := by
  intro l hq _
  have hl : ∀ x ∈ l, inr x := fun x hx => inr_of (hq.2 x hx)
  obtain ⟨K, hK⟩ : ∃ K : Nat, K = 1000 := ⟨_, rfl⟩
  refine ⟨K, ?_⟩
  unfold ebbtidelaw10_ChainFolds.f
  rw [alive_eq K (by omega)]
  simp only [Option.bind_some, if_true]
  by_cases h : (l.length : Int) > 100
  · rw [if_pos h]
  · rw [if_neg h]
    exact folds_l0 hl (by omega) l.length 0 K (by omega) (by omega)
end Go.Proofs.Ythphlphkmfgkdaa.Pure
