/- The plain law of SessionAdds: whether replies are ready, and what they make of a session, is the document's. -/
import Derived.Test.YtjheajgckpfieaaDoorSessSame
import Derived.Test.YtjheajgckpfieaaDoorXx6
import Derived.Test.YtjheajgckpfieaaDoorXx16
import Derived.Test.YtjheajgckpfieaaDoorXx17
namespace Go.Proofs.YtjheajgckpfieaaDoor.Pure
open Go.RowKit Go.Proofs.YtjheajgckpfieaaDoor.X Go.Proofs.YtjheajgckpfieaaDoorW.PrintWords Go.Proofs.YtjheajgckpfieaaDoorW.PrintLast Go.Proofs.YtjheajgckpfieaaDoorW.PrintMore Go.Proofs.YtjheajgckpfieaaDoor.Aid Go.Proofs.YtjheajgckpfieaaDoor.Bytes

theorem rdL {l : List (List Rp)} {i : Nat} (h : i < l.length) : rd_L3 l (i : Int) = l[i] := getD_at h _
theorem add_eq (fr : List Int) (fb : Bool) {v w : List Rp} (hv : v.length ≤ 1000) (hw : w.length ≤ 1000) {k : Nat} (hk : 20 ≤ k) : session_Add.f k fr fb v w = some (fr, fb, v ++ w) ∧ ebbtideref24_Add.f fr fb v w = some (fr, fb, v ++ w) := by
  refine ⟨?_, ?_⟩
  · obtain ⟨k, rfl⟩ : ∃ m, k = m + 1 + 1 + 1 + 1 + 1 + 1 := ⟨k - 6, by omega⟩
    unfold session_Add.f api_Reply_25.f
    have r0 : rd_L3 [v, w] 0 = v := rfl
    have r1 : rd_L3 [v, w] 1 = w := rfl
    have hl : ([v, w].length : Int) = 2 := rfl
    have w1 : wrap64 (0 + 1) = 1 := w64s (i := 0) (by omega)
    have w2 : wrap64 (1 + 1) = 2 := w64s (i := 1) (by omega)
    have s1 : wrap64 (0 + (v.length : Int)) = (v.length : Int) := by rw [w64 (by omega) (by omega)]; omega
    have s2 : wrap64 ((v.length : Int) + (w.length : Int)) = ((v.length + w.length : Nat) : Int) := by rw [w64 (by omega) (by omega)]; omega
    rw [hl, api_Reply_25.l0, hl, r0, s1, w1, if_pos (by decide), if_pos (by decide), if_pos (by decide), if_neg (by omega), api_Reply_25.l0, hl, r1, s2, w2, if_pos (by decide), if_pos (by decide), if_pos (by decide), if_neg (by omega), api_Reply_25.l0, if_neg (by decide)]
    unfold api_Reply_32.f
    rw [if_pos (by omega), Int.toNat_natCast, if_pos (by omega), Option.bind_some, api_Reply_25.l1, hl, r0, w1, if_pos (by decide), if_pos (by decide), if_pos (by decide), if_pos (by rw [List.length_nil]; omega), api_Reply_25.l1, hl, r1, w2, if_pos (by decide), if_pos (by decide), if_pos (by decide), if_pos (by rw [List.nil_append]; omega), api_Reply_25.l1, if_neg (by decide), Option.bind_some, List.nil_append]
  · unfold ebbtideref24_Add.f
    rw [Option.bind_some, if_pos (by rw [List.length_nil]; omega), Option.bind_some, if_pos (by rw [List.nil_append]; omega), List.nil_append]
theorem adds_l0 {l : List Rp} (hl : l.length ≤ 100) (a : List Int) (p : Bool) {v : List Rp} (hv : v.length ≤ 100) (b : List Int) (q : Bool) {w : List Rp} (_ : w.length ≤ 100) (d : Nat) : ∀ (i k : Nat), i + d = l.length → d + 1000 < k →
    ebbtidelaw24_SessionAdds.l0 k l l (i : Int) a p v b q w = some true := by
  induction d with
  | zero =>
    intro i k hi hk
    obtain ⟨k, rfl⟩ := succ_of (show 0 < k by omega)
    simp only [ebbtidelaw24_SessionAdds.l0]
    have e := add_eq a p (v := v) (w := l) (by omega) (by omega) (k := k) (by omega)
    have h := same_eq a p b q (v := v) (w := w) (by omega) (k := k) (by omega)
    rw [if_neg (by omega), e.1, Option.bind_some, e.2, Option.bind_some, same_self _ _ (by rw [List.length_append]; omega) (by rw [List.length_append]; omega), Option.bind_some, if_pos rfl, h.1, Option.bind_some, h.2, Option.bind_some, if_pos (by simp), (replies_eq (by omega) (by omega)).1, Option.bind_some, decide_eq_true rfl]
  | succ d ih =>
    intro i k hi hk
    obtain ⟨k, rfl⟩ := succ_of (show 0 < k by omega)
    have hlt : i < l.length := by omega
    have e := ready_eq l[i] 5
    simp only [ebbtidelaw24_SessionAdds.l0]
    rw [if_pos (by omega), if_pos (by omega), rdP hlt, e.1, Option.bind_some, e.2, Option.bind_some, if_neg (by simp), w64s (by omega)]
    exact ih (i + 1) k (by omega) (by omega)
theorem SessionAdds : ebbtidelaw24_SessionAdds.Pure := by
  intro x y l _ _ _ _
  obtain ⟨K, hK⟩ : ∃ K : Nat, 9000 ≤ K := ⟨_, Nat.le_refl _⟩
  refine ⟨K + 1, ?_⟩
  unfold ebbtidelaw24_SessionAdds.f
  rw [alive_eq _ (by omega), Option.bind_some, if_pos rfl]
  rcases great_eq x.f0.f0 x.f0.f1 x.f1 (k := K + 1) (by omega) with h | ⟨h, hv⟩
  · rw [h, Option.bind_some, if_pos rfl, ebbtidelaw24_SessionAdds.j0, if_pos rfl]
  · rw [h, Option.bind_some, if_neg (by decide)]
    rcases great_eq y.f0.f0 y.f0.f1 y.f1 (k := K + 1) (by omega) with h2 | ⟨h2, hw⟩
    · rw [h2, Option.bind_some, if_pos rfl, ebbtidelaw24_SessionAdds.j0, if_pos rfl]
    · rw [h2, Option.bind_some, if_neg (by decide)]
      rcases great_eq [] false l (k := K + 1) (by omega) with h3 | ⟨h3, hl⟩
      · rw [h3, Option.bind_some, ebbtidelaw24_SessionAdds.j0, if_pos rfl]
      · rw [h3, Option.bind_some, ebbtidelaw24_SessionAdds.j0, if_neg (by decide), Option.bind_some, if_pos (by rw [List.length_nil]; omega), List.nil_append]
        exact adds_l0 hl _ _ hv _ _ hw l.length 0 K (by omega) (by omega)
end Go.Proofs.YtjheajgckpfieaaDoor.Pure
