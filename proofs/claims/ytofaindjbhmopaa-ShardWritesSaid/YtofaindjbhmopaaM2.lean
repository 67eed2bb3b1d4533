/- Words that the kit's print and shelf lay for a claim (those that this claim's texts name), and words of this session's own, joined. No condition of its own. -/
import Derived.Test.YtofaindjbhmopaaProg
import Derived.Test.YtofaindjbhmopaaM0
import Derived.Test.YtofaindjbhmopaaM1
import Derived.Laws.CopyOwn
import Derived.Lib.AppendZerosOnto
import Derived.Lib.Overlaps
import Derived.Laws.Externs
import Derived.Deep.RegionLaw
import Derived.Shelf.RegionOpenPlain
import Derived.Shelf.Small.Strs
section
namespace Go.Proofs.Ytofaindjbhmopaa.InsDel
open Go.RowKit Go.Proofs.YtofaindjbhmopaaW.PrintWords Go.Proofs.YtofaindjbhmopaaW.PrintLast Go.Proofs.YtofaindjbhmopaaW.PrintMore
theorem run_copy_k {P : Program} (w : World) (dT sT ty elem : TypeId) (sz b o dLen dCap : Nat) (a : Addr) (sLen sCap : Nat) (cs : List Value) (m : Nat)
 (hu : P.underlying dT = some (.slice elem)) (hs : (P.info? elem).map (·.size) = some sz) (hm : m = Nat.min sLen dLen) (hn : cs.length = m * sz)
 (hsrc : ∀ j v, cs[j]? = some v → w.cell? (a.add j) = some v) (hc : ∀ j, j < cs.length → (w.cell? ⟨b, o + j, none⟩).isSome = true) (hf : ∀ j, j < cs.length → w.frozen? ⟨b, o + j, none⟩ = false) (h1 : ∀ v ∈ cs, v.oneCell' = true) :
 (Builtin.copy_ #[dT, sT] ty #[.slice (some ⟨b, o, none⟩) dLen dCap, .slice (some a) sLen sCap]).run P w = .ok (goInt m) (w.setCells b o cs) := by
 have hl := run_loadCells_list (P := P) w a cs hsrc
 have hst := run_storeCells_cells (P := P) b o cs 0 w (by simpa using hc) (by simpa using hf) h1
 obtain ⟨i, hi, hz⟩ := Option.map_eq_some_iff.1 hs
 rw [hn] at hl
 subst hz
 simp [Builtin.copy_, run_underlying hu, Builtin.lenOf, Builtin.firstCells, sizeOf, typeInfo, hi, ← hm, hl, hst]
theorem wp_copy_r {P : Program} (w : World) {o : Oper} {a : Act} {K : Act → World → Prop} {Q : Exit → Act → World → Prop} (d s : Operand) (t t' : TypeId)
 (ho : o.op = .call { callee := .builtin .copy, args := #[d, s], argTypes := #[t, t'] }) (v u : Value) (hd : a.eval d = v) (hs : a.eval s = u) {v' : Value} {w' : World}
 (hr : (Builtin.copy_ #[t, t'] o.type #[v, u]).run P w = .ok v' w') (h : K (a.put o.dst v') w') : o.wp P a w K Q := by
 unfold Oper.wp execOp
 simp only [ho, resolve, invoke, builtin, Sem.run_bind, Sem.run_pure, Result.andThen_ok, List.map_toArray, List.map_cons, List.map_nil, hd, hs, hr]
 exact h
theorem wpList_copy_r {P : Program} (w : World) {ops : Array Oper} {rest : List Oper} {o : Oper} {a : Act} {Q : Exit → Act → World → Prop} (hgd : o.guard = none) (d s : Operand) (t t' : TypeId)
 (ho : o.op = .call { callee := .builtin .copy, args := #[d, s], argTypes := #[t, t'] }) (v u : Value) (hd : a.eval d = v) (hs : a.eval s = u) {v' : Value} {w' : World}
 (hr : (Builtin.copy_ #[t, t'] o.type #[v, u]).run P w = .ok v' w') (h : wpList P ops Q rest (a.put o.dst v') w') : wpList P ops Q (o :: rest) a w :=
 wpList_plain hgd fun _ hK => wp_copy_r w d s t t' ho v u hd hs hr (hK _ _ h)
theorem step_copy_r {P : Program} {ops : Array Oper} {o : Oper} {a : Act} {w : World} {K : Act → World → Prop} {Q : Exit → Act → World → Prop} {E : Prop}
 (hg : o.guard = none) (d x : Operand) (dT sT : TypeId) (hop : o.op = Op.call { callee := Callee.builtin Builtin.copy, args := #[d, x], argTypes := #[dT, sT] })
 (v u : Value) (hd : a.eval d = v) (hx : a.eval x = u) {v' : Value} {w' : World} (hr : (Builtin.copy_ #[dT, sT] o.type #[v, u]).run P w = .ok v' w') (hK : K (a.put o.dst v') w') :
 if Region.wanted o (yielded ops a.tmps) = true then Oper.wp P o a w K Q else E := by
 have hw : Region.wanted o (yielded ops a.tmps) = true := by simp [Region.wanted, hg]
 rw [if_pos hw]
 exact wp_copy_r w d x dT sT hop v u hd hx hr hK
theorem set_blk {w : World} {b : Nat} {e : TypeId} {cur : Array Value} (h : w.heap[b]? = some (.cells cur e (0, 0))) (o : Nat) (vs : List Value) (hl : o + vs.length ≤ cur.size) :
 ∃ cur', (w.setCells b o vs).heap[b]? = some (.cells cur' e (0, 0)) ∧ cur'.size = cur.size ∧ cur'.toList = cur.toList.take o ++ vs ++ cur.toList.drop (o + vs.length) := setCells_row vs o w cur h hl
theorem blk_some {w : World} {b : Nat} {e : TypeId} {cur : Array Value} (h : w.heap[b]? = some (.cells cur e (0, 0))) {j : Nat} (hj : j < cur.size) : (w.cell? ⟨b, j, none⟩).isSome = true := by
 rw [blk_cell h, Array.getElem?_eq_getElem hj]; rfl
theorem blk_of {w : World} {b : Nat} {e : TypeId} {cur : Array Value} (h : w.heap[b]? = some (.cells cur e (0, 0))) {cs : List Value} {o n : Nat} (hc : (cur.toList.drop o).take n = cs) : ∀ j v, cs[j]? = some v → w.cell? ((⟨b, o, none⟩ : Addr).add j) = some v := by
 intro j v hj
 have ha : (⟨b, o, none⟩ : Addr).add j = ⟨b, o + j, none⟩ := by unfold Addr.add; split <;> simp_all
 rw [ha, blk_cell h]
 rw [← hc, List.getElem?_take] at hj
 split at hj
 ·
  rw [List.getElem?_drop] at hj
  simpa using hj
 ·
  cases hj
theorem setCells_below {w0 w : World} {B b : Nat} (hB : Below B w0 w) (hb : B ≤ b) (o : Nat) (vs : List Value) : Below B w0 (w.setCells b o vs) := by
 obtain ⟨h1, h2, h3, h4⟩ := setCells_same b vs o w
 exact hB.trans ⟨h1, h2, h3, by rw [h4]; exact Nat.le_refl _, fun k hk => setCells_far vs o k (by omega)⟩
theorem setCells_kept {w0 w : World} {S : Nat → Prop} {b : Nat} (hK : Kept w0 w S) (hb : S b ∨ w0.heap.size ≤ b) (o : Nat) (vs : List Value) : Kept w0 (w.setCells b o vs) S := by
 refine hK.then_ (S2 := fun k => k = b) ⟨?_, fun k _ hk => setCells_far vs o k hk⟩ (fun k hk => by rw [hk]; exact hb)
 rw [(setCells_same b vs o w).2.2.2]
 exact Nat.le_refl _
theorem take_ins {α : Type} (cur : List α) (i n m : Nat) (xs vs : List α) (hx : cur.take n = xs) (hi : i ≤ n) (hn : n + m ≤ cur.length) (hv : vs.length = m) (hxl : xs.length = n) :
 ((((cur.take (i + m) ++ xs.drop i ++ cur.drop (i + m + (xs.drop i).length)).take i) ++ vs ++ ((cur.take (i + m) ++ xs.drop i ++ cur.drop (i + m + (xs.drop i).length)).drop (i + vs.length)))).take (n + m) = xs.take i ++ vs ++ xs.drop i := by
 subst hx
 have h1 : (cur.take (i + m)).length = i + m := by rw [List.length_take]; omega
 have h2 : ((cur.take n).drop i).length = n - i := by rw [List.length_drop, List.length_take]; omega
 have e1 : (cur.take (i + m) ++ (cur.take n).drop i ++ cur.drop (i + m + ((cur.take n).drop i).length)).take i = (cur.take n).take i := by
  rw [List.append_assoc, List.take_append_of_le_length (by rw [h1]; omega), List.take_take, List.take_take]
  congr 1
  omega
 have e2 : (cur.take (i + m) ++ (cur.take n).drop i ++ cur.drop (i + m + ((cur.take n).drop i).length)).drop (i + vs.length) = (cur.take n).drop i ++ cur.drop (i + m + ((cur.take n).drop i).length) := by
  rw [List.append_assoc, hv, List.drop_append_of_le_length (by rw [h1]; omega), List.drop_eq_nil_of_le (by rw [h1]; omega), List.nil_append]
 rw [e1, e2, ← List.append_assoc]
 rw [List.take_append_of_le_length (by simp only [List.length_append, List.length_take, h2, hv]; omega), List.take_of_length_le (by simp only [List.length_append, List.length_take, h2, hv]; omega)]
theorem take_app {α : Type} (a b : List α) (n : Nat) (h : a.length = n) : (a ++ b).take n = a := by rw [List.take_append_of_le_length (by omega), List.take_of_length_le (by omega)]
theorem reps_ins {α : Type} {R : α → List Value → Prop} {sz i : Nat} {xs ys : List α} {cs ds : List Value} (h : Reps R sz xs cs) (h' : Reps R sz ys ds) (hi : i ≤ xs.length) : Reps R sz (xs.take i ++ ys ++ xs.drop i) (cs.take (i * sz) ++ ds ++ cs.drop (i * sz)) :=
 Kd.reps_append (Kd.reps_append (Kd.reps_take h hi) h') (Kd.reps_drop h)
theorem free {α : Type} {d : Kd α} (hE : d.E = []) {w w1 : World} {base : Nat} {ok ok1 : Nat → Prop} {x : α} {cs : List Value} (h : d.M w base ok x cs) : d.M w1 base ok1 x cs := by
 have h1 := d.M_bound h
 have h2 : d.M w base (fun _ => False) x cs := d.M_mono (fun k hk => by
  obtain ⟨_, _, _, q, hq, _⟩ := hk
  rw [hE] at hq
  cases hq) h1
 exact d.M_mono (fun _ hk => hk.elim) (d.M_move (w1 := w1) (fun _ hk => hk.elim) h2)
theorem of_cells {α : Type} {d : Kd α} (hE : d.E = []) {e base g n cap : Nat} {ok okr : Nat → Prop} {w w1 : World} {cur : Array Value} {xs : List α} {cs : List Value} (hok : ok g) (hb : base ≤ g) (hh : w1.heap[g]? = some (.cells cur e (0, 0)))
 (hr : Reps (d.M w base okr) d.sz xs cs) (hn : xs.length = n) (h1 : n ≤ cap) (h2 : cap ≤ maxLen) (h3 : cur.size = cap * d.sz) (h4 : cur.toList.take (n * d.sz) = cs) : d.R e w1 base ok (.slice (some ⟨g, 0, none⟩) n cap) xs := by
 refine ⟨fun k hk => ?_, cs, ?_, hr.imp_ (fun _ _ h => free hE h)⟩
 ·
  simp only [Value.ownBlock, Option.some.injEq] at hk
  rw [← hk]; exact hok
 ·
  rw [hn]
  exact ⟨by rw [hr.1, hn], .inr ⟨g, cap, cur, rfl, hb, hh, h1, h2, h3, h4⟩⟩
theorem take_grow {α : Type} (row vs ds : List α) (i n m : Nat) (hi : i ≤ n) (hr : n + m ≤ row.length) (hv : vs.length = m) (hd : ds.length = n - i) :
 (((row.take i ++ vs ++ row.drop (i + vs.length)).take (i + m)) ++ ds ++ ((row.take i ++ vs ++ row.drop (i + vs.length)).drop (i + m + ds.length))).take (n + m) = row.take i ++ vs ++ ds := by
 have h1 : (row.take i ++ vs).length = i + m := by rw [List.length_append, List.length_take, hv]; omega
 rw [take_app _ _ _ h1]
 exact take_app _ _ _ (by rw [List.length_append, h1, hd]; omega)
end Go.Proofs.Ytofaindjbhmopaa.InsDel
end
section
namespace Go.Proofs
open Go.Shelf
def Try.lays106_ren : Go.Shelf.Ren := ⟨fun | 106 => 48 | 213 => 59 | 265 => 65 | n => n, fun | 9 => 9 | 3 => 3 | n => n, fun | n => n⟩
theorem Try.lays106 : Go.Proofs.Lays.n106 Try.prog Try.lays106_ren := {
 mixed := by kernel_rfl
 f106 := Try.func48.trans (congrArg some (by kernel_rfl))
 f213 := Try.func59.trans (congrArg some (by kernel_rfl))
 f265 := Try.func65.trans (congrArg some (by kernel_rfl))
 t3 := Try.underlying3
 a3 := Try.isAgg3
 z3 := Try.sizeOf3
 v3 := Try.zeroValue3
 t9 := Try.underlying9
 a9 := Try.isAgg9
 z9 := Try.sizeOf9
 v9 := Try.zeroValue9 }
open Go.RowKit in
theorem Try.strings_Compare (a b : ByteArray) (w : World) :
 Calls Try.prog 48 #[.string a, .string b] w fun e w' => e = .returned (.int .i64 (Lib.compareBytes a.data.toList b.data.toList)) ∧ w' = w := Any.strings_Compare Try.lays106 a b w
end Go.Proofs
end
