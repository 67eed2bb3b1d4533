/- A literal of rows that is made just ahead of a call, as the call's last argument. No condition of its own. -/
import Derived.Test.YtejpddjdpcpepaaWNEv
namespace Go.Proofs.YtejpddjdpcpepaaW.PrintWords
open Go.RowKit
namespace Kd
theorem N_lit_call {α : Type} (d : Kd α) {w0 W : World} (base e : Nat) {P : Program} {n : Nat} {A : Value → Array Value} {m : Nat} {cs : Array Value} {xs : List α} {inner : List Value} {ok okp : Nat → Prop} {Q : Ending → World → Prop}
    (hl : xs.length = m) (hc : cs = inner.toArray) (hrep : Reps (FK d W okp) d.sz xs inner) (hok : ∀ k, okp k → ok k) (hfresh : ok W.heap.size) (HB : Below base w0 W) (hbase : base ≤ W.heap.size) (hm : xs.length ≤ 9223372036854775807)
    (h : ∀ v1 w1, N d e w1 base ok v1 xs → Below base w0 w1 → W.grownBy w1 none → (∃ b, v1.ownBlock = some b ∧ W.heap.size ≤ b) → Calls P n (A v1) w1 Q) :
    Calls P n (A (.slice (some ⟨W.heap.size, 0, none⟩) m m)) (W.alloc (.cells cs e)) Q := by
  subst hl hc
  have hr := reps_raw hrep (fun y c hk => ⟨d.K_len (FK_now hk), d.K_one (FK_now hk)⟩)
  have hR : (raw d.sz).R e (W.alloc (.cells inner.toArray e)) base (fun k => k = W.heap.size) (.slice (some ⟨W.heap.size, 0, none⟩) xs.length xs.length) (chunks d.sz xs.length inner) := by
    refine ⟨fun k hk => ?_, inner, ?_, ?_⟩
    · have : W.heap.size = k := by simpa [Value.ownBlock] using hk
      exact this.symm
    · have h2 := World.ownsRow_lit (base := base) (e := e) (size := d.sz) W inner.toArray xs.length hbase (by simpa [maxLen] using hm) (by simpa using hrep.1)
      rw [chunks_length]
      have h3 : (W.alloc (.cells inner.toArray e)).ownsRow base e d.sz (.slice (some ⟨W.heap.size, 0, none⟩) xs.length xs.length) xs.length inner := by simpa using h2
      exact h3
    · exact hr
  exact h _ _ (N_made hR (World.grownBy_alloc W _ none) ⟨W.heap.size, by simp [Value.ownBlock], Nat.le_refl _⟩ (chunks_length _ _ _) (fun j y c hy hc => by rw [chunks_get hc]; exact hrep.2 j y hy) hok hfresh) (HB.alloc hbase _) (World.grownBy_alloc W _ none) ⟨W.heap.size, by simp [Value.ownBlock], Nat.le_refl _⟩
end Kd
end Go.Proofs.YtejpddjdpcpepaaW.PrintWords
