/- From what a law's argument reads as in memory to what the printed contracts ask of it: one word a kind of type, so that a law over slices of structs, or over structs, is opened by putting the words together. No condition of its own. -/
import Derived.Test.YtklhjponikgkkaaWWords
import Derived.Test.YtklhjponikgkkaaWMore
import Derived.Deep.Slices
import Derived.Lib.SmallJoins
import Derived.Carry
import Derived.OpenShut
import Derived.SizedLaws
namespace Go.Proofs.Ytklhjponikgkkaa.Opens
open Go.RowKit Go.Proofs.YtklhjponikgkkaaW.PrintWords Go.Proofs.YtklhjponikgkkaaW.PrintLast Go.ChangeShapes Go.WideShapes Go.Deep

/-- Whatever cells read as a datum of type t are those of some x of kind k, of which Q holds. -/
def Opens {H : Type} (enc : TypeId × Value → H) (P : Program) (w : World) (base : Nat) (spare : Nat → Bool) (held : Bool) (t : TypeId) {α : Type} (k : Kd α) (Q : α → Prop) : Prop :=
  ∀ (fuel : Nat) (cs : List Value) (y : DataW H × List MemPlace), DataW.trod enc P w base spare held fuel t cs = some y → (∀ n ∈ y.1.weights P t, n ≤ reachBytes) → ∃ x : α, k.K w x cs ∧ Q x

section
variable {H : Type} {enc : TypeId × Value → H} {P : Program} {w : World} {base : Nat} {spare : Nat → Bool} {held : Bool}

theorem opens_int {t : TypeId} {k : IntKind} (ht : P.underlying t = some (.int k)) : Opens enc P w base spare held t (Kd.int k) (fun n => (Lit.int k n).wf = true) := by
  intro fuel cs y h _
  obtain ⟨n, rfl, _, hw⟩ := DataW.trod_int ht h
  exact ⟨n, rfl, hw⟩
theorem opens_bool {t : TypeId} (ht : P.underlying t = some .bool) : Opens enc P w base spare held t Kd.bool (fun _ => True) := by
  intro fuel cs y h _
  obtain ⟨b, rfl, _⟩ := DataW.trod_bool ht h
  exact ⟨b, rfl, trivial⟩
theorem opens_string {t : TypeId} (ht : P.underlying t = some .string) : Opens enc P w base spare held t Kd.string (fun s => s.size ≤ 140737488351232) := by
  intro fuel cs y h hw
  obtain ⟨s, rfl, rfl, _⟩ := DataW.trod_string ht h
  refine ⟨s, rfl, ?_⟩
  have := hw s.data.toList.length (by simp [DataW.weights])
  rw [Array.length_toList] at this
  exact this
theorem weights_all {e : TypeId} {d : DataW H} : ∀ {l : List (DataW H)}, d ∈ l → ∀ n ∈ d.weights P e, n ∈ DataW.weightsAll P e l
  | x :: l, hd, n, hn => by
    simp only [DataW.weightsAll, List.mem_append]
    rcases List.mem_cons.mp hd with h | h
    · subst h
      exact .inl hn
    · exact .inr (weights_all h n hn)
/-- What the row's bound says of one argument's weights. -/
theorem weighs {ts : List TypeId} {ds : List (DataW H)} {j : Nat} {t : TypeId} {d : DataW H} (hsz : (DataW.weightsEach P ts ds).all (· ≤ reachBytes) = true) (ht : ts[j]? = some t) (hd : ds[j]? = some d) : ∀ n ∈ d.weights P t, n ≤ reachBytes := fun n hn => by
  have := List.all_eq_true.1 hsz n (DataW.weights_mem_each ht hd n hn)
  simpa using this

theorem list_of_lt {α : Type} {n : Nat} {p : Nat → α → Prop} (h : ∀ i, i < n → ∃ x, p i x) : ∃ xs : List α, xs.length = n ∧ ∀ i x, xs[i]? = some x → p i x := by
  induction n with
  | zero => exact ⟨[], rfl, fun i x hx => by simp at hx⟩
  | succ n ih =>
    obtain ⟨xs, hl, hp⟩ := ih (fun i hi => h i (Nat.lt_succ_of_lt hi))
    obtain ⟨x, hx⟩ := h n (Nat.lt_succ_self n)
    refine ⟨xs ++ [x], by simp [hl], fun i y hy => ?_⟩
    by_cases hi : i < n
    · rw [List.getElem?_append_left (by omega)] at hy
      exact hp i y hy
    · rw [List.getElem?_append_right (by omega), hl] at hy
      have : i = n := by
        have := (List.getElem?_eq_some_iff.1 hy).1
        simp at this
        omega
      subst this
      simp at hy
      subst hy
      exact hx

theorem opens_slice {t e : TypeId} {α : Type} {k : Kd α} {Q : α → Prop} (ht : P.underlying t = some (.slice e)) (hc : P.cellsOf e = k.sz) (ho : Opens enc P w base spare held e k Q) :
    Opens enc P w base spare held t (Kd.slice e k) (fun xs => xs.length ≤ maxLen ∧ ∀ x ∈ xs, Q x) := by
  intro fuel cs y h hw
  rcases open_slice ht h with ⟨rfl, _⟩ | ⟨a, len, cap, m, n, D, Pl, rfl, hb, hl, hm, hmm, hy, hx⟩
  · exact ⟨[], ⟨none, 0, rfl, Nat.le_refl _, rfl, Nat.zero_le _, fun h => absurd h (Nat.lt_irrefl _)⟩, Nat.zero_le _, fun x hx => by simp at hx⟩
  · have hle : len ≤ m := by rw [hmm]; split <;> omega
    obtain ⟨xs, hxl, hp⟩ := list_of_lt (n := len) (p := fun i x => (∃ c, c.length = k.sz ∧ k.K w x c ∧ ∀ j u, c[j]? = some u → w.cell? (a.add (i * k.sz + j)) = some u) ∧ Q x) (fun i hi => by
      obtain ⟨cs', h1, h2⟩ := hx i (by omega)
      obtain ⟨x, hk, hq⟩ := ho _ _ _ h2 (fun z hz => hw z (by
        rw [hy]
        simp only [DataW.weights, ht, List.mem_cons, List.mem_append]
        exact .inr (.inl (weights_all (List.mem_map_of_mem (List.mem_range.mpr hi)) z hz))))
      refine ⟨x, ⟨cs', k.K_len hk, hk, fun j u hu => ?_⟩, hq⟩
      obtain ⟨_, hlen, hcell⟩ := World.cells?_some h1
      have hj := (List.getElem?_eq_some_iff.1 hu).1
      have hv := hcell j (by omega)
      rw [Go.Deep.add_add] at hv
      rw [← hc, hv, hu])
    subst hxl
    refine ⟨xs, ⟨some a, cap, rfl, hl, rfl, by unfold maxLen at hm; omega, fun _ => ⟨a, rfl, fun j p hj => ?_⟩⟩, Nat.le_trans hl hm, fun x hx => ?_⟩
    · exact (hp j p hj).1
    · obtain ⟨i, hi⟩ := List.getElem?_of_mem hx
      exact (hp i x hi).2

/-- Two fields in line: the first one's cells begin at o. -/
theorem pair_at {α β : Type} {a : Kd α} {b : Kd β} {x : α} {y : β} {cs : List Value} {o s o' : Nat} (ho : o' = o + s) (h0 : a.K w x ((cs.drop o).take s)) (h1 : b.K w y (cs.drop o')) : (Kd.pair a b).K w (x, y) (cs.drop o) := by
  subst ho
  refine ⟨_, _, (List.take_append_drop s (cs.drop o)).symm, h0, ?_⟩
  rw [List.drop_drop]
  exact h1
/-- The last field. -/
theorem last_at {α : Type} {a : Kd α} {x : α} {cs : List Value} {o s : Nat} (hl : cs.length = o + s) (h0 : a.K w x ((cs.drop o).take s)) : a.K w x (cs.drop o) := by
  rw [List.take_of_length_le (by simp; omega)] at h0
  exact h0
theorem opens_mono {t : TypeId} {α : Type} {k : Kd α} {Q Q' : α → Prop} (h : Opens enc P w base spare held t k Q) (hq : ∀ x, Q x → Q' x) : Opens enc P w base spare held t k Q' := by
  intro fuel cs y hy hw
  obtain ⟨x, hk, hx⟩ := h fuel cs y hy hw
  exact ⟨x, hk, hq x hx⟩
/-- A field's reading. -/
theorem field_at {t : TypeId} {fs : Array Field} {fuel : Nat} {cs : List Value} {y : DataW H × List MemPlace} (ht : P.underlying t = some (.struct fs)) (h : DataW.trod enc P w base spare held fuel t cs = some y) (hw : ∀ n ∈ y.1.weights P t, n ≤ reachBytes) :
    cs.length = P.cellsOf t ∧ ∀ (i : Nat) (f : Field) {α : Type} (k : Kd α) (Q : α → Prop) (o s : Nat), fs[i]? = some f → f.offset = o → P.cellsOf f.type = s → Opens enc P w base spare held f.type k Q → ∃ x : α, k.K w x ((cs.drop o).take s) ∧ Q x := by
  obtain ⟨xs, n, _, hy, hl, hn, hf⟩ := DataW.trod_struct ht h
  refine ⟨hl, fun i f α k Q o s hi ho hs hk => ?_⟩
  have hz := hf i f hi
  have hi2 : i < xs.length := by
    have := (Array.getElem?_eq_some_iff.1 hi).1
    omega
  rw [List.getElem?_eq_getElem hi2, ho, hs] at hz
  refine hk _ _ _ hz (fun z hz2 => hw z ?_)
  rw [hy]
  simp only [DataW.weights, ht]
  exact DataW.weights_mem_each (j := i) (t := f.type) (d := xs[i].1) (by rw [List.getElem?_map, Array.getElem?_toList, hi]; rfl) (by rw [List.getElem?_map, List.getElem?_eq_getElem hi2]; rfl) z hz2

/-- An array's element's reading. -/
theorem elem_at {t e : TypeId} {n fuel : Nat} {cs : List Value} {y : DataW H × List MemPlace} (ht : P.underlying t = some (.array n e)) (h : DataW.trod enc P w base spare held fuel t cs = some y) (hw : ∀ n ∈ y.1.weights P t, n ≤ reachBytes) :
    cs.length = P.cellsOf t ∧ ∀ (i : Nat) {α : Type} (k : Kd α) (Q : α → Prop) (o s : Nat), i < n → i * P.cellsOf e = o → P.cellsOf e = s → Opens enc P w base spare held e k Q → ∃ x : α, k.K w x ((cs.drop o).take s) ∧ Q x := by
  obtain ⟨xs, m, _, hy, hl, hn, hf⟩ := DataW.trod_array ht h
  refine ⟨hl, fun i α k Q o s hi ho hs hk => ?_⟩
  have hz := hf i hi
  rw [List.getElem?_eq_getElem (by omega), ho, hs] at hz
  refine hk _ _ _ hz (fun z hz2 => hw z ?_)
  rw [hy]
  simp only [DataW.weights, ht]
  exact weights_all (List.mem_map_of_mem (List.getElem_mem (by omega))) z hz2
theorem okWide_arr {r : Reach} {b : Nat} {t e : TypeId} {n : Nat} {v : Value} (ht : P.underlying t = some (.array n e)) (h : Value.okWide P w r b t v) : ∃ cs, v = .agg cs ∧ cs.size = P.cellsOf t := by
  simp only [Value.okWide, ht] at h
  obtain ⟨cs, h1, h2, _⟩ := h
  exact ⟨cs, h1, h2⟩
/-- What the row's own bound on what is read says of a slice. -/
theorem sized_any {W : World} {t e : TypeId} {a : Option Addr} {len cap : Nat} {d : DataW H} {ps : List MemPlace} {ts : List TypeId} {ds : List (DataW H)} {j B : Nat}
    (hsz : (DataW.weightsEach P ts ds).all (· ≤ reachBytes) = true) (ht : ts[j]? = some t) (hd : ds[j]? = some d) (hu : P.underlying t = some (.slice e)) (hB : P.bytesOf e = B)
    (h : DataW.Trod enc P W base spare held t (.slice a len cap) d ps) : len * B ≤ 140737488351232 := by
  obtain ⟨fuel, hf⟩ := h
  rcases open_slice hu hf with ⟨hcs, _⟩ | ⟨x, l, c, m, n, D, Pl, hcs, _, hl, _, _, hx, _⟩
  · simp [Value.cells] at hcs
    obtain ⟨rfl, rfl, rfl⟩ := hcs
    simp
  · simp [Value.cells] at hcs
    obtain ⟨rfl, rfl, rfl⟩ := hcs
    obtain ⟨hx, _⟩ := Prod.mk.inj hx
    subst hx
    have z := sized_slice hsz ht hd hu
    rw [hB] at z
    simp only [List.length_map, List.length_range] at z
    exact Nat.le_trans (Nat.mul_le_mul_right _ (Nat.le_add_right _ _)) z

/-- A slice that came in: what the printed contracts ask of it. -/
theorem slice_of {t e : TypeId} {α : Type} {k : Kd α} {Q : List α → Prop} {a : Option Addr} {len cap : Nat} {d : DataW H} {ps : List MemPlace} (ho : Opens enc P w base spare held t (Kd.slice e k) Q)
    (h : DataW.Trod enc P w base spare held t (.slice a len cap) d ps) (hw : ∀ n ∈ d.weights P t, n ≤ reachBytes) : ∃ xs : List α, len = xs.length ∧ xs.length ≤ cap ∧ k.C w a xs.length xs ∧ Q xs := by
  obtain ⟨fuel, hf⟩ := h
  obtain ⟨xs, ⟨A, c, he, hl, hC⟩, hq⟩ := ho _ _ _ hf hw
  simp only [Value.cells, List.cons.injEq, Value.slice.injEq, and_true] at he
  obtain ⟨rfl, rfl, rfl⟩ := he
  exact ⟨xs, rfl, hl, hC, hq⟩
/-- A struct that came in by value. -/
theorem struct_of {t : TypeId} {α : Type} {k : Kd α} {Q : α → Prop} {cs : Array Value} {d : DataW H} {ps : List MemPlace} (ho : Opens enc P w base spare held t k Q)
    (h : DataW.Trod enc P w base spare held t (.agg cs) d ps) (hw : ∀ n ∈ d.weights P t, n ≤ reachBytes) : ∃ x : α, k.K w x cs.toList ∧ Q x := by
  obtain ⟨fuel, hf⟩ := h
  exact ho _ _ _ hf hw
theorem agg_of {cs : Array Value} {l : List Value} (h : cs.toList = l) : cs = l.toArray := by
  subst h
  simp
end
end Go.Proofs.Ytklhjponikgkkaa.Opens
