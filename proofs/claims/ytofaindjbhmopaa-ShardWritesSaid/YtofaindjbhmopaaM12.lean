/- Plain facts on what the printed functions compute, joined; each says its conditions. -/
import Derived.Test.YtofaindjbhmopaaM0
section
namespace Go.Proofs.YtofaindjbhmopaaW.PrintWords
open Go.RowKit
namespace Kd
theorem R_lit_call {α : Type} (d : Kd α) {w0 W : World} (base e : Nat) {P : Program} {n : Nat} {g : Nat} {A : Value → Array Value} {m : Nat} {cs : Array Value} {xs : List α} {inner : List Value} {ok okp : Nat → Prop} {Q : Ending → World → Prop}
 (hg0 : g = W.heap.size) (hl : xs.length = m) (hc : cs = inner.toArray) (hrep : Reps (d.M W base okp) d.sz xs inner) (hok : ∀ k, okp k → ok k) (hfresh : ok W.heap.size) (HB : Below base w0 W) (hbase : base ≤ W.heap.size) (hm : xs.length ≤ 9223372036854775807)
 (h : ∀ v1 w1, d.R e w1 base ok v1 xs → Below base w0 w1 → W.grownBy w1 none → (∃ b, v1.ownBlock = some b ∧ W.heap.size ≤ b) → Calls P n (A v1) w1 Q) :
 Calls P n (A (.slice (some ⟨g, 0, none⟩) m m)) (W.alloc (.cells cs e)) Q := by
 subst hg0 hl hc
 refine h _ _ ⟨fun k hk => ?_, inner, ?_, ?_⟩ (HB.alloc hbase _) (World.grownBy_alloc W _ none) ⟨W.heap.size, by simp [Value.ownBlock], Nat.le_refl _⟩
 ·
  have : W.heap.size = k := by simpa [Value.ownBlock] using hk
  subst this
  exact hfresh
 ·
  have h2 := World.ownsRow_lit (base := base) (e := e) (size := d.sz) W inner.toArray xs.length hbase (by simpa [maxLen] using hm) (by simpa using hrep.1)
  simpa using h2
 ·
  refine hrep.imp_ (fun p c hp => d.M_mono (fun k hk => ⟨hok k hk.1, fun he => ?_⟩) (M_below (d.M_bound hp) (below_alloc (Below.refl _ _) _)))
  have h3 : k = W.heap.size := by simpa [Value.ownBlock] using he
  have := hk.2.2.1
  omega
end Kd
end Go.Proofs.YtofaindjbhmopaaW.PrintWords
end
