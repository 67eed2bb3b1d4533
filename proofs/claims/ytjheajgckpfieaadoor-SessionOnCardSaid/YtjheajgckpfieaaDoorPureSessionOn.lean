/- The plain law of SessionOn: settled at a stamp, and at a greater one, a session tells what it tells, settled at that alone. -/
import Derived.Test.YtjheajgckpfieaaDoorSessPlain
import Derived.Test.YtjheajgckpfieaaDoorXx19
namespace Go.Proofs.YtjheajgckpfieaaDoor.Pure
open Go.RowKit Go.Proofs.YtjheajgckpfieaaDoor.X Go.Proofs.YtjheajgckpfieaaDoorW.PrintWords Go.Proofs.YtjheajgckpfieaaDoorW.PrintLast Go.Proofs.YtjheajgckpfieaaDoorW.PrintMore Go.Proofs.YtjheajgckpfieaaDoor.Aid Go.Proofs.YtjheajgckpfieaaDoor.Bytes

theorem rdy_up {a b : Int} (h : a ≤ b) {x : Rp} (hr : rdy a x = true) : rdy b x = true := by
  unfold rdy at hr ⊢
  by_cases h0 : x.f1 = 0
  · rw [if_pos h0]
  · rw [if_neg h0] at hr ⊢
    by_cases h1 : x.f1 = 1
    · rw [if_pos h1] at hr ⊢
      have := of_decide_eq_true hr
      exact decide_eq_true (by omega)
    · rw [if_neg h1] at hr
      cases hr
theorem on_both {a b : Int} (h : a ≤ b) : ∀ w : List Rp, rest b (rest a w) = rest b w ∧ outs a w ++ outs b (rest a w) = outs b w
  | [] => ⟨rfl, rfl⟩
  | x :: w => by
    obtain ⟨i1, i2⟩ := on_both h w
    rw [rest_cons, outs_cons]
    by_cases hr : rdy a x = true
    · rw [if_pos hr, if_pos hr, rest_cons, outs_cons, if_pos (rdy_up h hr), if_pos (rdy_up h hr), i1, List.cons_append, i2]
      exact ⟨rfl, rfl⟩
    · rw [if_neg hr, if_neg hr, List.nil_append]
      exact ⟨rfl, rfl⟩
theorem SessionOn : ebbtidelaw24_SessionOn.Pure := by
  intro x s _ _
  obtain ⟨K, hK⟩ : ∃ K : Nat, 9000 ≤ K := ⟨_, Nat.le_refl _⟩
  refine ⟨K, ?_⟩
  have hle : mn s.f0 s.f1 ≤ mx s.f0 s.f1 := by unfold mn mx; split <;> split <;> omega
  obtain ⟨lo, hlo⟩ : ∃ a, a = mn s.f0 s.f1 := ⟨_, rfl⟩
  obtain ⟨hi, hhi⟩ : ∃ a, a = mx s.f0 s.f1 := ⟨_, rfl⟩
  unfold ebbtidelaw24_SessionOn.f
  rw [← hlo, ← hhi] at hle ⊢
  rw [alive_eq _ (by omega), Option.bind_some, if_pos rfl]
  rcases great_eq x.f0.f0 x.f0.f1 x.f1 (k := K) (by omega) with h | ⟨h, hw⟩
  · rw [h, Option.bind_some, if_pos rfl]
  · obtain ⟨b1, b2⟩ := on_both hle x.f1
    have p1 := parts lo x.f1
    have p2 := parts hi (rest lo x.f1)
    have p3 := parts hi x.f1
    rw [h, Option.bind_some, if_neg (by decide), settle_eq gnil lo _ _ (by omega) (by omega), map_nil, Option.bind_some]
    dsimp only
    rw [settle_eq gnil hi _ _ (by omega) (by omega), map_nil, Option.bind_some, settle_eq gnil hi _ _ (by omega) (by omega), map_nil, Option.bind_some]
    dsimp only
    rw [b1, same_self _ _ (by omega) (by omega), Option.bind_some, if_pos rfl, Option.bind_some, if_pos (by rw [List.length_nil]; omega), Option.bind_some, List.nil_append, if_pos (by omega), b2, texts_self (by omega) (by omega), Option.bind_some]
end Go.Proofs.YtjheajgckpfieaaDoor.Pure
