/- The plain law of ChainPuts: what is put, and folded, is alike in both. No condition of its own. -/
import Derived.Test.YthphlphkmfgkdaaChainPlain
import Derived.Test.YthphlphkmfgkdaaXx17
import Derived.Test.YthphlphkmfgkdaaXx8
import Derived.Test.YthphlphkmfgkdaaXx16
import Derived.Test.YthphlphkmfgkdaaXx15
namespace Go.Proofs.Ythphlphkmfgkdaa.Pure
open Go.RowKit Go.Proofs.Ythphlphkmfgkdaa.X Go.Proofs.YthphlphkmfgkdaaW.PrintWords Go.Proofs.YthphlphkmfgkdaaW.PrintLast Go.Proofs.YthphlphkmfgkdaaW.PrintMore Go.Proofs.Ythphlphkmfgkdaa.Aid

theorem rput_eq {l m : List W} (hn : l.length + m.length < LM) (k : Nat) (hk : l.length + m.length + 5 < k) : ebbtideref10_Put.f k l m = some (pushed l m) := by
  have hl : (l ++ m).length < LM := by rw [List.length_append]; exact hn
  have hn' := hn
  unfold LM at hn'
  unfold ebbtideref10_Put.f pushed
  simp only [Option.bind_some, List.nil_append]
  rw [if_pos (by simp; omega)]
  rw [if_pos (by omega), rright_eq hl k (by rw [List.length_append]; omega)]
  simp only [Option.bind_some]
  by_cases h : rightFrom 0 (l ++ m) = true
  · rw [if_pos h, if_pos h]
  · rw [if_neg h, if_neg h]
theorem wc_of {x : W} (h : Q40 x) : WC (ce x.f1) := ⟨inr_of h.2.1, inr_of h.2.2.1.1, inr_of h.2.2.2.1, inr_of h.2.2.2.2⟩
theorem folds_eq {l : List W} (hl : l.length ≤ 200) (hq : ∀ x ∈ l, Q40 x) (s v : Int) (hv : inr v) (k : Nat) (hk : 300 < k) :
    ∃ r : List W × Int, chain_Fold.f k l s v = some r ∧ ebbtideref10_Fold.f k l s v = some r ∧ r.1.length ≤ 201 := by
  have hput : ∀ x : W, chain_Put.f k l [x] = some (pushed l [x]) := fun x => push_eq (by rw [List.length_singleton]; unfold LM; omega) k (by rw [List.length_singleton]; omega)
  have hrput : ∀ x : W, ebbtideref10_Put.f k l [x] = some (pushed l [x]) := fun x => rput_eq (by rw [List.length_singleton]; unfold LM; omega) k (by rw [List.length_singleton]; omega)
  have hle : ∀ x : W, (pushed l [x]).1.length ≤ 201 := fun x => by have := pushed_le l [x]; rw [List.length_singleton] at this; omega
  unfold chain_Fold.f ebbtideref10_Fold.f
  by_cases c : (l.length : Int) > 0
  · have hlt : l.length - 1 < l.length := by omega
    have hi : ((l.length : Int) - 1) = ((l.length - 1 : Nat) : Int) := by omega
    have hw := wc_of (hq _ (List.getElem_mem hlt))
    have h1 := fold_eq hw hv k (by omega)
    have h2 := ref_fold hw hv k (by omega)
    simp only [ce] at h1 h2
    rw [if_pos c, if_pos c, w64p (by omega), hi, if_pos (by omega), if_pos (by omega), if_pos (by omega), if_pos (by omega), rdW hlt, h1, h2]
    simp only [Option.bind_some]
    rw [hput, hrput]
    exact ⟨_, rfl, rfl, hle _⟩
  · have h1 := fold_eq zc_wc hv k (by omega)
    have h2 := ref_fold zc_wc hv k (by omega)
    simp only [zc] at h1 h2
    rw [if_neg c, if_neg c, h1, h2]
    simp only [Option.bind_some]
    rw [hput, hrput]
    exact ⟨_, rfl, rfl, hle _⟩
theorem puts_j0_true (l m : List W) (v : Int) (k : Nat) (hk : 0 < k) : ebbtidelaw10_ChainPuts.j0 k l m v true = some true := by
  obtain ⟨k, rfl⟩ := succ_of hk
  simp only [ebbtidelaw10_ChainPuts.j0]
  rfl
theorem puts_j0 (l m : List W) (hl : l.length ≤ 200) (hm : m.length ≤ 200) (h0 : 0 < m.length) (hq : ∀ x ∈ l, Q40 x) (v : Int) (hv : inr v) (k : Nat) (hk : 600 < k) : ebbtidelaw10_ChainPuts.j0 k l m v false = some true := by
  obtain ⟨k, rfl⟩ := succ_of hk
  have hL : l.length < LM := by unfold LM; omega
  have hP := pushed_le l m
  obtain ⟨r, h1, h2, h3⟩ := folds_eq hl hq (rd_T40 m 0).f0 v hv k (by omega)
  simp only [ebbtidelaw10_ChainPuts.j0, Option.bind_some, List.nil_append]
  rw [if_neg (by simp), if_pos (by simp; omega), push_eq (by unfold LM; omega) k (by omega), rput_eq (by unfold LM; omega) k (by omega)]
  simp only [Option.bind_some]
  rw [if_pos (by omega), h1, h2]
  simp only [Option.bind_some]
  rw [rsame_eq (by unfold LM; omega) k (by omega), same_self]
  simp only [Option.bind_some, if_true]
  rw [rsame_eq (by unfold LM; omega) k (by omega), same_self]
  simp only [Option.bind_some, if_true]
  rw [rsame_eq hL k (by omega), same_self]
  rfl
theorem ChainPuts : ebbtidelaw10_ChainPuts.Pure := by
  intro l m v hq _ _ _ hv
  obtain ⟨K, hK⟩ : ∃ K : Nat, K = 700 := ⟨_, rfl⟩
  refine ⟨K, ?_⟩
  unfold ebbtidelaw10_ChainPuts.f
  rw [alive_eq K (by omega)]
  simp only [Option.bind_some, if_true]
  by_cases h : (l.length : Int) > 200
  · rw [if_pos h, puts_j0_true l m v K (by omega)]
  · rw [if_neg h]
    by_cases h2 : (m.length : Int) > 200
    · rw [if_pos h2, puts_j0_true l m v K (by omega)]
    · rw [if_neg h2]
      by_cases h3 : m.length = 0
      · rw [h3, show (((0 : Nat) : Int) == 0) = true from rfl, puts_j0_true l m v K (by omega)]
      · rw [show ((m.length : Int) == 0) = false from beq_eq_false_iff_ne.mpr (by omega), puts_j0 l m (by omega) (by omega) (by omega) hq.2 v (inr_of hv) K (by omega)]
end Go.Proofs.Ythphlphkmfgkdaa.Pure
