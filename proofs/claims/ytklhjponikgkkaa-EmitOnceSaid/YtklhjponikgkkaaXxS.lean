/- Small words of this session's own for the printed texts: a guard whose other way is none; facts carried over what a world's small steps leave as it was. No condition of its own. -/
import Derived.Test.YtklhjponikgkkaaXx0
namespace Go.Proofs.Ytklhjponikgkkaa.X
open Go.RowKit Go.Proofs.YtklhjponikgkkaaW.PrintWords Go.Proofs.YtklhjponikgkkaaW.PrintLast Go.Proofs.YtklhjponikgkkaaW.PrintMore

theorem gd {c : Prop} [Decidable c] {α : Type} {a : Option α} {r : α} (h : (if c then a else none) = some r) : c ∧ a = some r := by
  by_cases hc : c
  · rw [if_pos hc] at h
    exact ⟨hc, h⟩
  · rw [if_neg hc] at h
    cases h
theorem gn {c : Prop} [Decidable c] {α : Type} {a : Option α} {r : α} (h : (if c then none else a) = some r) : ¬ c ∧ a = some r := by
  by_cases hc : c
  · rw [if_pos hc] at h
    cases h
  · rw [if_neg hc] at h
    exact ⟨hc, h⟩
/-- A world behind some small steps: blocks laid, orders drawn. -/
class inductive Up : World → World → Prop
  | refl (w : World) : Up w w
  | alloc {w w' : World} (h : Up w w') (o : Obj) : Up w (w'.alloc o)
  | drewN {w w' : World} (h : Up w w') (n : Nat) : Up w (w'.drewN n)
  | drew {w w' : World} (h : Up w w') : Up w w'.drew
instance (priority := low) up0 (w : World) : Up w w := .refl w
instance up1 {w w' : World} [h : Up w w'] (o : Obj) : Up w (w'.alloc o) := .alloc h o
instance up2 {w w' : World} [h : Up w w'] (n : Nat) : Up w (w'.drewN n) := .drewN h n
instance up3 {w w' : World} [h : Up w w'] : Up w w'.drew := .drew h
theorem uB {w w' : World} [u : Up w w'] {g : Nat} {o : Obj} (h : w.heap[g]? = some o) : w'.heap[g]? = some o := by
  induction u with
  | refl => exact h
  | alloc _ o ih => exact blk_alloc ih o
  | drewN _ n ih => exact blk_drewN ih n
  | drew _ ih => exact blk_drew ih
theorem uW {w w' : World} [u : Up w w'] {v : World} (h : Below v.heap.size v w) : Below v.heap.size v w' := by
  induction u with
  | refl => exact h
  | alloc _ o ih => exact below_alloc ih o
  | drewN _ n ih => exact pw_below_drewN ih n
  | drew _ ih => exact below_drew1 ih
theorem uR {α : Type} {d : Kd α} {e : TypeId} {w w' : World} [u : Up w w'] {b : Nat} {ok : Nat → Prop} {v : Value} {xs : List α} (h : Kd.R d e w b ok v xs) : Kd.R d e w' b ok v xs := by
  induction u with
  | refl => exact h
  | alloc _ o ih => exact Kd.R_alloc ih o
  | drewN _ n ih => exact Kd.R_drewN ih n
  | drew _ ih => exact Kd.R_drew ih
theorem uQ {α : Type} {d : Kd α} {e : TypeId} {w w' : World} [u : Up w w'] {b : Nat} {ok : Nat → Prop} {v : Value} {xs : List α} (h : Kd.Q d e w b ok v xs) : Kd.Q d e w' b ok v xs := by
  induction u with
  | refl => exact h
  | alloc _ o ih => exact Kd.Q_alloc ih o
  | drewN _ n ih => exact Kd.Q_drewN ih n
  | drew _ ih => exact Kd.Q_drew ih
theorem uV {α : Type} {d : Kd α} {e : TypeId} {w w' : World} [u : Up w w'] {b : Nat} {ok : Nat → Prop} {v : Value} {xs : List α} (h : Kd.V d e w b ok v xs) : Kd.V d e w' b ok v xs := by
  induction u with
  | refl => exact h
  | alloc _ o ih => exact Kd.V_alloc ih o
  | drewN _ n ih => exact Kd.V_drewN ih n
  | drew _ ih => exact Kd.V_drew ih
theorem uS {α : Type} {d : Kd α} {e : TypeId} {w w' : World} [u : Up w w'] {b : Nat} {ok : Nat → Prop} {v : Value} {xs : List α} (h : Kd.S d e w b ok v xs) : Kd.S d e w' b ok v xs := by
  induction u with
  | refl => exact h
  | alloc _ o ih => exact Kd.S_alloc ih o
  | drewN _ n ih => exact Kd.S_drewN ih n
  | drew _ ih => exact Kd.S_drew ih
/-- Facts over a call; a test that is at hand; a cell that stood ahead. -/
theorem cB {w w1 w2 : World} [u : Up w w1] {g : Nat} {o : Obj} (h : Aside0 (w.heap[g]? = some o)) (hb : Below w1.heap.size w1 w2) : Aside0 (w2.heap[g]? = some o) := ⟨blk_below (uB h.out) hb⟩
theorem cW {v w w1 w2 : World} [u : Up w w1] (h : Aside0 (Below v.heap.size v w)) (hb : Below w1.heap.size w1 w2) : Aside0 (Below v.heap.size v w2) := ⟨below_step (uW h.out) hb⟩
theorem cR {α : Type} {d : Kd α} {e : TypeId} {w w1 w2 : World} [u : Up w w1] {b : Nat} {ok : Nat → Prop} {v : Value} {xs : List α} (h : Aside0 (Kd.R d e w b ok v xs)) (hb : Below w1.heap.size w1 w2) : Aside0 (Kd.R d e w2 b ok v xs) := ⟨Kd.R_below (uR h.out) hb⟩
theorem cQ {α : Type} {d : Kd α} {e : TypeId} {w w1 w2 : World} [u : Up w w1] {b : Nat} {ok : Nat → Prop} {v : Value} {xs : List α} (h : Aside0 (Kd.Q d e w b ok v xs)) (hb : Below w1.heap.size w1 w2) : Aside0 (Kd.Q d e w2 b ok v xs) := ⟨Kd.Q_below (uQ h.out) hb⟩
theorem cV {α : Type} {d : Kd α} {e : TypeId} {w w1 w2 : World} [u : Up w w1] {b : Nat} {ok : Nat → Prop} {v : Value} {xs : List α} (h : Aside0 (Kd.V d e w b ok v xs)) (hb : Below w1.heap.size w1 w2) : Aside0 (Kd.V d e w2 b ok v xs) := ⟨Kd.V_below (uV h.out) hb⟩
theorem cS {α : Type} {d : Kd α} {e : TypeId} {w w1 w2 : World} [u : Up w w1] {b : Nat} {ok : Nat → Prop} {v : Value} {xs : List α} (h : Aside0 (Kd.S d e w b ok v xs)) (hb : Below w1.heap.size w1 w2) : Aside0 (Kd.S d e w2 b ok v xs) := ⟨Kd.S_below (uS h.out) hb⟩
theorem od {p : Prop} [Decidable p] (h : decide p = true := by first | (with_reducible assumption) | assumption) : p := of_decide_eq_true h
theorem kc {w w' : World} (H : Aside0 (Below w.heap.size w w')) {a : Addr} {v : Value} (h : w.cell? a = some v) : w'.cell? a = some v := (H.out.cell (World.block_lt_of_cell? w _ h)).trans h
/-- An operation that yields in every world: the next one. -/
theorem ya {P : Program} {ops : Array Oper} {oi : Oper} {v : Value} {a : Act} (h : Yields P ops oi v a := by exact Or.inl ⟨by rfl, by intro w'; go_simp; with_reducible rfl⟩) : Yields P ops oi v a := h
theorem aa {N : Option Tmp} {v : Value} {a a' : Act} (h : a.put N v = a' := by simp only [Act.put, List.setIfInBounds_toArray, List.set_cons_zero, List.set_cons_succ, i64_w, i32_w]; rfl) : a.put N v = a' := h
theorem ao {md : Region.Mode} {ops : Array Oper} {T : Bool × List (List Nat × List Nat)} {l l' : Array Bool} {i : Nat} (hT : Aside0 (rtab md ops = T)) (h : anyT T l.toList l'.toList i = true := by kernel_rfl) : anyB md ops l l' i = true := any_of hT.out h
theorem tw {md : Region.Mode} {ops : Array Oper} {T : Bool × List (List Nat × List Nat)} {B ds : List Nat} {l l' : Array Bool} {i : Nat} (hT : Aside0 (rtab md ops = T)) (hB : Aside0 (waitsOk T.2 B = true)) (h : takeW T B ds l.toList l'.toList i = true := by kernel_rfl) : takeB md ops ds l l' i = true := take_ofW hT.out hB.out h
theorem tk {P : Program} {ops : Array Oper} {Q : Exit → Act → World → Prop} {md : Region.Mode} {S : World → Prop} {ds : List Nat} (i : Nat) (N : Option Tmp) {oi : Oper} {v : Value} {fuel : Nat} {l : Array Bool} {a a' : Act} {w : World}
    (hi : ops[i]? = some oi) (hN : oi.dst = N) (hc : takeB md ops ds l (l.setIfInBounds i true) i = true) (hQ : ∀ c a w, Q (.panic c) (a.put oi.dst v) w → Q (.panic c) a w) (hy : YieldsIf P ops S oi v a) (hS : S w) (ha : a.put N v = a')
    (h : wpAnyLast P md ops Q S ds fuel (l.setIfInBounds i true) a' w) : wpAnyLast P md ops Q S ds (fuel + 1) l a w :=
  take_ _ hi hN hc hQ hy hS ha h
theorem pu {P : Program} {ops : Array Oper} {Q : Exit → Act → World → Prop} {md : Region.Mode} {S : World → Prop} {ds : List Nat} (i : Nat) (N : Option Tmp) {oi : Oper} {v : Value} {fuel : Nat} {l : Array Bool} {a a' : Act} {w : World}
    (hi : ops[i]? = some oi) (hN : oi.dst = N) (hc : anyB md ops l (l.setIfInBounds i true) i = true) (hQ : ∀ c a w, Q (.panic c) (a.put oi.dst v) w → Q (.panic c) a w) (hy : Yields P ops oi v a) (ha : a.put N v = a')
    (h : wpAnyLast P md ops Q S ds fuel (l.setIfInBounds i true) a' w) : wpAnyLast P md ops Q S ds (fuel + 1) l a w :=
  pure_ _ hi hN hc hQ hy ha h
end Go.Proofs.Ytklhjponikgkkaa.X
