/- The plain law of SessionOrder: what is told, and what waits still, is what waited, in order; what is first then isn't ready. -/
import Derived.Test.YtjheajgckpfieaaDoorSessPlain
import Derived.Test.YtjheajgckpfieaaDoorXx18
namespace Go.Proofs.YtjheajgckpfieaaDoor.Pure
open Go.RowKit Go.Proofs.YtjheajgckpfieaaDoor.X Go.Proofs.YtjheajgckpfieaaDoorW.PrintWords Go.Proofs.YtjheajgckpfieaaDoorW.PrintLast Go.Proofs.YtjheajgckpfieaaDoorW.PrintMore Go.Proofs.YtjheajgckpfieaaDoor.Aid Go.Proofs.YtjheajgckpfieaaDoor.Bytes

theorem outs_at {s : Int} : ∀ {w : List Rp} {i : Nat} (h : i < (outs s w).length) (h2 : i < w.length), (outs s w)[i] = w[i].f0
  | [], i, h, h2 => absurd h2 (by simp)
  | x :: w, i, h, h2 => by
    by_cases hr : rdy s x = true
    · have e : outs s (x :: w) = x.f0 :: outs s w := by rw [outs_cons, if_pos hr]
      cases i with
      | zero => simp only [e, List.getElem_cons_zero]
      | succ i =>
        simp only [e, List.getElem_cons_succ]
        exact outs_at _ _
    · have e : outs s (x :: w) = [] := by rw [outs_cons, if_neg hr]
      rw [e] at h
      exact absurd h (by simp)
theorem rest_drop (s : Int) : ∀ (w : List Rp), rest s w = w.drop (outs s w).length
  | [] => rfl
  | x :: w => by
    rw [rest_cons, outs_cons]
    by_cases hr : rdy s x = true
    · rw [if_pos hr, if_pos hr, List.length_cons, List.drop_succ_cons]
      exact rest_drop s w
    · rw [if_neg hr, if_neg hr]
      rfl
theorem rest_at {s : Int} {w : List Rp} {i : Nat} (h : i < (rest s w).length) (h2 : (outs s w).length + i < w.length) : (rest s w)[i] = w[(outs s w).length + i] := by
  have e := rest_drop s w
  have : (rest s w)[i] = (w.drop (outs s w).length)[i]'(by rw [← e]; exact h) := by congr 1
  rw [this, List.getElem_drop]
theorem rest_head (s : Int) : ∀ (w : List Rp), rest s w = [] ∨ ∃ x r, rest s w = x :: r ∧ rdy s x = false
  | [] => .inl rfl
  | x :: w => by
    rw [rest_cons]
    by_cases hr : rdy s x = true
    · rw [if_pos hr]
      exact rest_head s w
    · rw [if_neg hr]
      exact .inr ⟨x, w, rfl, Bool.eq_false_iff.mpr hr⟩
theorem told_keeps {A : List An} {x : Rp} (h : ¬ x.f1 = 2) : told A x = x := by
  unfold told
  rw [if_neg h]
theorem order_l1 {A : List An} (s : Int) (fr : List Int) (fb : Bool) {w : List Rp} (hw : w.length ≤ 100) (d : Nat) : ∀ (i k : Nat), i + d = (rest s (w.map (told A))).length → d + 8000 < k →
    ebbtidelaw24_SessionOrder.l1 k s (outs s (w.map (told A))) (i : Int) fr fb w fr fb (rest s (w.map (told A))) = some true := by
  have hp := parts s (w.map (told A))
  rw [List.length_map] at hp
  induction d with
  | zero =>
    intro i k hi hk
    obtain ⟨k, rfl⟩ := succ_of (show 0 < k by omega)
    have hh := rest_head s (w.map (told A))
    have he : rest s (rest s (w.map (told A))) = rest s (w.map (told A)) ∧ outs s (rest s (w.map (told A))) = [] := by
      rcases hh with e | ⟨x, r, e, hr⟩
      · rw [e]
        exact ⟨rfl, rfl⟩
      · rw [e, rest_cons, outs_cons, hr]
        exact ⟨rfl, rfl⟩
    simp only [ebbtidelaw24_SessionOrder.l1]
    rw [if_neg (by omega), settle_eq gnil s fr fb (w := rest s (w.map (told A))) (by omega) (by omega), map_nil, he.1, he.2, Option.bind_some]
    dsimp only
    rw [if_pos (by decide), same_self _ _ (by omega) (by omega), Option.bind_some, if_pos rfl]
    rcases hh with e | ⟨x, r, e, hr⟩
    · rw [e, if_pos (by simp)]
    · rw [e, if_neg (by rw [List.length_cons]; omega), if_pos (by rw [List.length_cons]; omega)]
      have h0 : rd_T42 (x :: r) 0 = x := rfl
      rw [h0, (ready_eq x s).2, hr]
      rfl
  | succ d ih =>
    intro i k hi hk
    obtain ⟨k, rfl⟩ := succ_of (show 0 < k by omega)
    have hlt : i < (rest s (w.map (told A))).length := by omega
    have hlo : (outs s (w.map (told A))).length + i < w.length := by omega
    have hx : wrap64 (((outs s (w.map (told A))).length : Int) + (i : Int)) = (((outs s (w.map (told A))).length + i : Nat) : Int) := by rw [w64 (by omega) (by omega)]; omega
    have hi1 := ih (i + 1) k (by omega) (by omega)
    simp only [ebbtidelaw24_SessionOrder.l1]
    rw [if_pos (by omega), hx, if_pos (by omega), if_pos (by omega), rdP hlo, w64s (by omega), hi1]
    by_cases h : w[(outs s (w.map (told A))).length + i].f1 = 2
    · rw [if_pos h]
    · have e : (rest s (w.map (told A)))[i] = w[(outs s (w.map (told A))).length + i] := by
        rw [rest_at hlt (by rw [List.length_map]; omega), List.getElem_map]
        exact told_keeps h
      rw [if_neg h, if_pos (by omega), rdP hlt, e, if_neg (mt (rp_ne _ _).mp (fun hn => hn rfl))]
theorem order_l0 {A : List An} (s : Int) (fr : List Int) (fb : Bool) {w : List Rp} (hw : w.length ≤ 100) (d : Nat) : ∀ (i k : Nat), i + d = (outs s (w.map (told A))).length → d + 8200 < k →
    ebbtidelaw24_SessionOrder.l0 k s (outs s (w.map (told A))) (i : Int) fr fb w fr fb (rest s (w.map (told A))) = some true := by
  have hp := parts s (w.map (told A))
  rw [List.length_map] at hp
  induction d with
  | zero =>
    intro i k hi hk
    obtain ⟨k, rfl⟩ := succ_of (show 0 < k by omega)
    simp only [ebbtidelaw24_SessionOrder.l0]
    rw [if_neg (by omega)]
    exact order_l1 s fr fb hw (rest s (w.map (told A))).length 0 k (by omega) (by omega)
  | succ d ih =>
    intro i k hi hk
    obtain ⟨k, rfl⟩ := succ_of (show 0 < k by omega)
    have hlt : i < (outs s (w.map (told A))).length := by omega
    have hlw : i < w.length := by omega
    simp only [ebbtidelaw24_SessionOrder.l0]
    rw [if_pos (by omega), if_pos (by omega), if_pos (by omega), rdP hlw, w64s (by omega), ih (i + 1) k (by omega) (by omega)]
    by_cases h : w[i].f1 = 2
    · rw [if_pos h]
    · have e : (outs s (w.map (told A)))[i] = w[i].f0 := by
        rw [outs_at hlt (by rw [List.length_map]; omega), List.getElem_map, told_keeps h]
      rw [if_neg h, rdOf_at hlt, e, if_pos rfl]
theorem SessionOrder : ebbtidelaw24_SessionOrder.Pure := by
  intro x s A _ _ hA _
  obtain ⟨K, hK⟩ : ∃ K : Nat, 9000 ≤ K := ⟨_, Nat.le_refl _⟩
  refine ⟨K + 1, ?_⟩
  unfold ebbtidelaw24_SessionOrder.f
  rw [alive_eq _ (by omega), Option.bind_some, if_pos rfl]
  rcases great_eq x.f0.f0 x.f0.f1 x.f1 (k := K + 1) (by omega) with h | ⟨h, hw⟩
  · rw [h, Option.bind_some, if_pos rfl, ebbtidelaw24_SessionOrder.j0, if_pos rfl]
  · rw [h, Option.bind_some, if_neg (by decide)]
    rcases much_eq A hA.2 (k := K + 1) (by omega) with h2 | ⟨h2, hg⟩
    · rw [h2, Option.bind_some, ebbtidelaw24_SessionOrder.j0, if_pos rfl]
    · have hp := parts s (x.f1.map (told A))
      rw [List.length_map] at hp
      rw [h2, Option.bind_some, ebbtidelaw24_SessionOrder.j0, if_neg (by decide), settle_eq hg s _ _ (by omega) (by omega), Option.bind_some]
      dsimp only
      rw [if_pos (by rw [w64 (by omega) (by omega)]; omega)]
      exact order_l0 s _ _ hw (outs s (x.f1.map (told A))).length 0 K (by omega) (by omega)
end Go.Proofs.YtjheajgckpfieaaDoor.Pure
