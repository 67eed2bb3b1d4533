/- Printed by a program of this session's own: what functions of the program compute, and that the machine computes it. -/
import Derived.Test.YtklhjponikgkkaaXx0
import Derived.Test.YtklhjponikgkkaaXx2
import Derived.Test.YtklhjponikgkkaaXxS
namespace Go.Proofs.Ytklhjponikgkkaa.X
open Go.RowKit Go.Proofs.YtklhjponikgkkaaW.PrintWords Go.Proofs.YtklhjponikgkkaaW.PrintLast Go.Proofs.YtklhjponikgkkaaW.PrintMore
attribute [local go_sem] max2_int min2_int max_two min_two max_three min_three max_four min_four   -- for this text's walks alone
set_option linter.unusedVariables false
set_option linter.unusedSimpArgs false

/-! ### api_Drop_44: function 44 -/
/-- What is asked of a function value that is handed to it: at each element, in each later world, it answers as p does. -/
def api_Drop_44.Fn (g : Nat) (lb : Array Value) (p : S46 → Bool) (l : List (S46)) (w : World) : Prop :=
 ∀ (W : World) (x : S46), x ∈ l → Below w.heap.size w W → Calls Try.prog g (#[.agg #[.int .i64 x.f0, .int .i64 x.f1]] ++ lb) W fun e w' => e = .returned (.bool (p x)) ∧ Below W.heap.size W w'
/-- The first place at which p holds, or -1; the places are counted from i on. -/
def api_Drop_44.idx (p : S46 → Bool) : List (S46) → Nat → Int
 | [], _ => -1
 | x :: l, i => if p x = true then (i : Int) else api_Drop_44.idx p l (i + 1)
theorem api_Drop_44.idx_miss {p : S46 → Bool} : ∀ {l : List (S46)} {i : Nat}, api_Drop_44.idx p l i = -1 ∨ (i : Int) ≤ api_Drop_44.idx p l i
 | [], _ => .inl rfl
 | x :: l, i => by
  unfold api_Drop_44.idx
  split
  ·
   exact .inr (Int.le_refl _)
  ·
   rcases api_Drop_44.idx_miss (p := p) (l := l) (i := i + 1) with h | h
   ·
    exact .inl h
   ·
    exact .inr (by omega)
theorem api_Drop_44.idx_any (p : S46 → Bool) : ∀ (l : List (S46)) (i : Nat), decide (0 ≤ api_Drop_44.idx p l i) = l.any p
 | [], _ => rfl
 | x :: l, i => by
  unfold api_Drop_44.idx
  by_cases h : p x = true
  ·
   rw [if_pos h, List.any_cons, h, Bool.true_or]
   exact decide_eq_true (by omega)
  ·
   rw [if_neg h, api_Drop_44.idx_any p l (i + 1), List.any_cons, Bool.eq_false_iff.2 h, Bool.false_or]
set_option maxHeartbeats 2000000 in
set_option maxRecDepth 100000 in
theorem api_Drop_44.calls (g : Nat) (lb : Array Value) (eg : ∀ args w, (callFunc g args).run Try.prog w = .ok (.enter g args) w) (p : S46 → Bool) (A0 : Option Addr) (c0 : Nat) (l0 : List (S46)) (w : World) (hr0 : Kd.C k46 w A0 l0.length l0) (hp : api_Drop_44.Fn g lb p l0 w) :
 Calls Try.prog 44 #[.slice A0 l0.length c0, .func (.func g) #[] lb] w fun e w' => e = .returned (.int .i64 (api_Drop_44.idx p l0 0)) ∧ Below w.heap.size w w' := by
 have hu46 := Try.underlying46
 have HR0 := Aside0.mk hr0
 have HP := Aside0.mk hp
 have HL := Aside0.mk hr0.2.1
 clear hr0 hp
 go_enter Try.func44, Try.ntmps44
 go_wp2
 go_loopg [5, 8] l0.length (fun gg _ v8 wr => ∃ x : Int, v8 = .int .i64 x ∧ Aside0 (0 ≤ x) ∧ Aside0 (x ≤ (l0.length : Int)) ∧ Aside0 ((l0.length : Int) - x ≤ gg) ∧ Aside0 (api_Drop_44.idx p l0 0 = api_Drop_44.idx p (l0.drop x.toNat) x.toNat) ∧ Aside0 (Below w.heap.size w wr))
 case atStart => exact ⟨0, rfl, ⟨by omega⟩, ⟨by omega⟩, ⟨by omega⟩, ⟨rfl⟩, ⟨Below.refl _ _⟩⟩
 case round =>
  obtain ⟨x, rfl, H0, H1, HG, HI, HB⟩ := hrel
  by_cases hlt : x < (l0.length : Int)
  ·
   have p101 : 0 ≤ x := H0.out
   obtain ⟨ad101, e101, hx101_0, hx101_1⟩ := at_T46 HR0.out x p101 hlt
   cases e101
   have hy101_0 := kc HB hx101_0
   clear hx101_0
   have hy101_1 := kc HB hx101_1
   clear hx101_1
   have HN : Aside0 (x.toNat < l0.length) := ⟨by omega⟩
   have hget : rd_T46 l0 x = l0[x.toNat]'HN.out := by
    show l0.getD x.toNat _ = _
    rw [List.getD_eq_getElem?_getD, List.getElem?_eq_getElem HN.out, Option.getD_some]
   have hcall := HP.out wr (rd_T46 l0 x) (by rw [hget]; exact List.getElem_mem HN.out) HB.out
   have HGE := Aside0.mk hget
   clear hget
   have c1b0 : decide (x < (l0.length : Int)) = true := decide_eq_true hlt
   have pi101 : (0 ≤ (x : Int)) = True := eq_true p101
   have qi101 : (x < (l0.length : Int)) = True := eq_true hlt
   have HLT := Aside0.mk hlt
   clear hlt p101
   cases hq : p (rd_T46 l0 x) with
   | true =>
    rw [hq] at hcall
    have HQ := Aside0.mk hq
    clear hq
    go_wp2_with (go_at_fn g; refine hcall.mono ?_; rintro e w' ⟨rfl, hb'⟩)
    go_ret
    refine ⟨?_, HB.out.trans (hb'.mono HB.out.size)⟩
    rw [HI.out, List.drop_eq_getElem_cons HN.out]
    unfold api_Drop_44.idx
    rw [if_pos (by rw [← HGE.out]; exact HQ.out), Int.toNat_of_nonneg H0.out]
    rfl
   | false =>
    rw [hq] at hcall
    have HQ := Aside0.mk hq
    clear hq
    go_wp2_with (go_at_fn g; refine hcall.mono ?_; rintro e w' ⟨rfl, hb'⟩)
    have hw : wrap64 (x + 1) = x + 1 := by have := HLT.out; have := HL.out; have := H0.out; unfold wrap64; omega
    (try rw [hw])
    clear hw
    go_roundg (l0.length - (x.toNat + 1))
    case measure => have := HLT.out; have := HG.out; have := H0.out; omega
    case rel =>
     refine ⟨x + 1, by first | rfl | (have := HLT.out; have := HL.out; have := H0.out; simp; unfold wrap64; omega), ⟨by have := H0.out; omega⟩, ⟨by have := HLT.out; omega⟩, ⟨by have := HLT.out; have := H0.out; omega⟩, ⟨?_⟩, ⟨HB.out.trans (hb'.mono HB.out.size)⟩⟩
     rw [HI.out, List.drop_eq_getElem_cons HN.out, show (x + 1).toNat = x.toNat + 1 from by have := H0.out; omega]
     conv => lhs; unfold api_Drop_44.idx
     rw [if_neg (by rw [← HGE.out, HQ.out]; simp)]
  ·
   have hx : x = (l0.length : Int) := by have := H1.out; omega
   have c1b0 : decide (x < (l0.length : Int)) = false := decide_eq_false hlt
   clear hlt
   have HX := Aside0.mk hx
   clear hx
   go_wp2
   go_ret
   refine ⟨?_, HB.out⟩
   rw [HI.out, HX.out, Int.toNat_natCast, List.drop_of_length_le (Nat.le_refl _)]
   rfl

-- NOT PRINTED: function 44 (api_Drop_44)

/-! ### api_Drop_24: function 24 -/
set_option maxHeartbeats 2000000 in
set_option maxRecDepth 100000 in
theorem api_Drop_24.calls (g : Nat) (lb : Array Value) (eg : ∀ args w, (callFunc g args).run Try.prog w = .ok (.enter g args) w) (p : S46 → Bool) (A0 : Option Addr) (c0 : Nat) (l0 : List (S46)) (w : World) (hr0 : Kd.C k46 w A0 l0.length l0) (hp : api_Drop_44.Fn g lb p l0 w) :
 Calls Try.prog 24 #[.slice A0 l0.length c0, .func (.func g) #[] lb] w fun e w' => e = .returned (.bool (l0.any p)) ∧ Below w.heap.size w w' := by
 have hcall := fun W => api_Drop_44.calls g lb eg p A0 c0 l0 W
 rw [← api_Drop_44.idx_any p l0 0]
 generalize api_Drop_44.idx p l0 0 = r at hcall ⊢
 go_enter Try.func24, Try.ntmps24
 go_wp2_with (go_at_call 44; refine (hcall _ hr0 hp).mono ?_; rintro e w' ⟨rfl, hb'⟩)
 go_ret
 exact ⟨rfl, hb'⟩

-- NOT PRINTED: function 24 (api_Drop_24)

/-! ### api_Drop_over_25: function 24 -/
/-- The closure: is a drop one of the window that the cell of block B holds? -/
theorem api_Drop_over_25.clo (B : Nat) (W : World) (x : S46) (v : Int) (h0 : W.cell? ⟨B, 0, none⟩ = some (.int .i64 v)) :
 Calls Try.prog 25 (#[.agg #[.int .i64 x.f0, .int .i64 x.f1]] ++ #[.pointer (some ⟨B, 0, none⟩)]) W fun e w' => e = .returned (.bool (x.f0 == v)) ∧ Below W.heap.size W w' := by
 have hB : B < W.heap.size := World.block_lt_of_cell? W _ h0
 have hne : B ≠ W.heap.size := by omega
 have hu := Try.underlying46
 have hu2 := Try.underlying70
 go_enter Try.func25, Try.ntmps25
 go_wp2
 go_ret
 exact ⟨by first | rfl | simp, (Below.refl _ _).alloc (Nat.le_refl _) _⟩
def api_Drop_over_25.f (l0 : List (S46)) (a1 : Int) : Option (Bool) := some (l0.any fun x => x.f0 == a1)
set_option maxHeartbeats 8000000 in
set_option maxRecDepth 100000 in
theorem api_Drop_over_25.calls {B0_ : Nat} (A0 : Option Addr) (c0 : Nat) (l0 : List (S46)) (a1 : Int) (r : Bool) (w : World) (hB0 : w.cell? ⟨B0_, 0, none⟩ = some (.int .i64 a1)) (hr0 : Kd.C k46 w A0 l0.length l0) (hc0 : l0.length ≤ c0) (h : api_Drop_over_25.f l0 a1 = some r) :
 Calls Try.prog 24 #[.slice A0 l0.length c0, .func (.func 25) #[] #[.pointer (some ⟨B0_, 0, none⟩)]] w fun e w' => e = .returned (.bool r) ∧ Below w.heap.size w w' := by
 obtain rfl := Option.some.inj h
 have eg : ∀ args w, (callFunc 25 args).run Try.prog w = .ok (.enter 25 args) w := enters_of Try.func25 (by kernel_rfl) rfl
 exact api_Drop_24.calls 25 #[.pointer (some ⟨B0_, 0, none⟩)] eg (fun x => x.f0 == a1) _ _ l0 w hr0 (fun W x _ hW => api_Drop_over_25.clo B0_ W x a1 ((hW.cell (World.block_lt_of_cell? w _ hB0)).trans hB0))

/-! ### emit_Next: function 9 -/
def emit_Next.l0 : Nat → Int → List (S46) → List (List (S61)) → List Int → List (S70) → Int → Int → Int → Int → Int → Int → Int → Option (Int × Bool)
 | 0, _, _, _, _, _, _, _, _, _, _, _, _ => none
 | k + 1, x1, x2, x3, x12, x17, x18, x19, x123000, x123001, x123002, x123003, x123004 => if x19 < x18 then (if 0 ≤ x19 then (if x19 < (x17.length : Int) then ((api_Drop_over_25.f x2 ((rd_T70 x17 x19).f0)).bind fun t129 => (if t129 = true then (emit_Next.l0 k x1 x2 x3 x12 x17 x18 (wrap64 (x19 + 1)) x123000 x123001 x123002 x123003 x123004) else ((win_Closed.f ((rd_T70 x17 x19).f0) x123002 x123003 x1).bind fun t130 => (if t130 = true then ((seq_Waits.f k ((rd_T70 x17 x19).f0) x3).bind fun t131 => (if t131 = true then (emit_Next.l0 k x1 x2 x3 x12 x17 x18 (wrap64 (x19 + 1)) x123000 x123001 x123002 x123003 x123004) else (if x12.length < 17592186044416 then (emit_Next.l0 k x1 x2 x3 (x12 ++ [(rd_T70 x17 x19).f0]) x17 x18 (wrap64 (x19 + 1)) x123000 x123001 x123002 x123003 x123004) else (none)))) else (emit_Next.l0 k x1 x2 x3 x12 x17 x18 (wrap64 (x19 + 1)) x123000 x123001 x123002 x123003 x123004))))) else (none)) else (none)) else (if (x12.length : Int) = 0 then (some (0, false)) else ((slices_Min_int64_int64.f k x12).bind fun t126 => (some (t126, true))))
def emit_Next.f (k : Nat) (a0_0 : Int) (a0_1 : Int) (a0_2 : Int) (a0_3 : Int) (a0_4 : Int) (a1 : Int) (l2 : List (S46)) (l3 : List (List (S61))) (l4 : List (S50)) : Option (Int × Bool) := (emit_entries.f k l4).bind fun t123 => (emit_Next.l0 k a1 l2 l3 ([] : List Int) t123 (t123.length : Int) 0 a0_0 a0_1 a0_2 a0_3 a0_4)
theorem emit_Next.mono_l : ∀ k, (∀ y0 y1 y2 y3 y4 y5 y6 y7 y8 y9 y10 y11, LeO (emit_Next.l0 k y0 y1 y2 y3 y4 y5 y6 y7 y8 y9 y10 y11) (emit_Next.l0 (k + 1) y0 y1 y2 y3 y4 y5 y6 y7 y8 y9 y10 y11))
 | 0 => fun _ _ _ _ _ _ _ _ _ _ _ _ r h => by simp [emit_Next.l0] at h
 | k + 1 => by
  have ih0 := emit_Next.mono_l k
  ·
   intro y0 y1 y2 y3 y4 y5 y6 y7 y8 y9 y10 y11
   unfold emit_Next.l0
   repeat' first
   | (with_reducible exact ih0 _ _ _ _ _ _ _ _ _ _ _ _)
   | (with_reducible exact emit_entries.mono _ _)
   | (with_reducible exact seq_Waits.mono _ _ _)
   | (with_reducible exact slices_Min_int64_int64.mono _ _)
   | (with_reducible exact LeO.refl _)
   | (with_reducible exact LeO.none _)
   | (with_reducible refine LeO.ite ?_ ?_)
   | (with_reducible refine LeO.bind ?_ (fun _ => ?_))
   | exact ih0 _ _ _ _ _ _ _ _ _ _ _ _
   | exact emit_entries.mono _ _
   | exact seq_Waits.mono _ _ _
   | exact slices_Min_int64_int64.mono _ _
   | exact LeO.none _
   | refine LeO.ite ?_ ?_
   | refine LeO.bind ?_ (fun _ => ?_)
theorem emit_Next.mono : ∀ a0 a1 a2 a3 a4 a5 a6 a7 a8 k, LeO (emit_Next.f k a0 a1 a2 a3 a4 a5 a6 a7 a8) (emit_Next.f (k + 1) a0 a1 a2 a3 a4 a5 a6 a7 a8) := by
 intro a0 a1 a2 a3 a4 a5 a6 a7 a8 k
 have ih0 := emit_Next.mono_l k
 unfold emit_Next.f
 repeat' first
  | (with_reducible exact ih0 _ _ _ _ _ _ _ _ _ _ _ _)
  | (with_reducible exact emit_entries.mono _ _)
  | (with_reducible exact seq_Waits.mono _ _ _)
  | (with_reducible exact slices_Min_int64_int64.mono _ _)
  | (with_reducible exact LeO.refl _)
  | (with_reducible exact LeO.none _)
  | (with_reducible refine LeO.ite ?_ ?_)
  | (with_reducible refine LeO.bind ?_ (fun _ => ?_))
  | exact ih0 _ _ _ _ _ _ _ _ _ _ _ _
  | exact emit_entries.mono _ _
  | exact seq_Waits.mono _ _ _
  | exact slices_Min_int64_int64.mono _ _
  | exact LeO.none _
  | refine LeO.ite ?_ ?_
  | refine LeO.bind ?_ (fun _ => ?_)
set_option maxHeartbeats 8000000 in
set_option maxRecDepth 100000 in
theorem emit_Next.calls (k : Nat) (a0_0 : Int) (a0_1 : Int) (a0_2 : Int) (a0_3 : Int) (a0_4 : Int) (a1 : Int) (A2 : Option Addr) (c2 : Nat) (l2 : List (S46)) (A3 : Option Addr) (c3 : Nat) (l3 : List (List (S61))) (A4 : Option Addr) (c4 : Nat) (l4 : List (S50)) (r1 : Int) (r2 : Bool) (w : World) (hr2 : Kd.C k46 w A2 l2.length l2) (hc2 : l2.length ≤ c2) (hr3 : Kd.C (Kd.slice 61 k61) w A3 l3.length l3) (hc3 : l3.length ≤ c3) (hr4 : Kd.C k50 w A4 l4.length l4) (hc4 : l4.length ≤ c4) (h : emit_Next.f k a0_0 a0_1 a0_2 a0_3 a0_4 a1 l2 l3 l4 = some (r1, r2)) :
 Calls Try.prog 9 #[.agg #[.int .i64 a0_0, .int .i64 a0_1, .int .i64 a0_2, .int .i64 a0_3, .int .i64 a0_4], .int .i64 a1, .slice A2 l2.length c2, .slice A3 l3.length c3, .slice A4 l4.length c4] w fun e w' => e = .returned (.tuple #[.int .i64 r1, .bool r2]) ∧ Below w.heap.size w w' := by
 have hu23 := Try.underlying23
 have hu70 := Try.underlying70
 have HR2 := Aside0.mk hr2
 have HC2 := Aside0.mk hc2
 clear hr2 hc2
 have HR3 := Aside0.mk hr3
 have HC3 := Aside0.mk hc3
 clear hr3 hc3
 have HR4 := Aside0.mk hr4
 have HC4 := Aside0.mk hc4
 clear hr4 hc4
 have HB := Aside0.mk (Below.refl w.heap.size w)
 have H : ((emit_entries.f k l4).bind fun t123 => (emit_Next.l0 k a1 l2 l3 ([] : List Int) t123 (t123.length : Int) 0 a0_0 a0_1 a0_2 a0_3 a0_4)) = some (r1, r2) := h
 clear h
 replace H := Option.bind_eq_some_iff.mp H
 obtain ⟨t123, A60, H⟩ := H
 replace H : (emit_Next.l0 k a1 l2 l3 ([] : List Int) t123 (t123.length : Int) 0 a0_0 a0_1 a0_2 a0_3 a0_4) = some (r1, r2) := H
 have A6 := Aside0.mk A60
 clear A60
 have H' := Aside0.mk H
 clear H
 go_enter Try.func9, Try.ntmps9
 go_wp2_with (first | ((with_reducible refine gate_dst (N := 5) rfl ?_); refine box_event ?hg (N := 5) ?hd (cs := #[.int .i64 a0_0, .int .i64 a0_1, .int .i64 a0_2, .int .i64 a0_3, .int .i64 a0_4]) (t := 23) ?hr ?_; (case hd => rfl); (case hg => rfl); (case hr => first | (go_simp; done) | (go_simp; rfl)); intro gb122 hg w7 hbox hb; have BK122 := Aside0.mk (hbox); have GW122 := Aside0.mk ((by rw [hg]; exact (below_size (uW HB.out)) : w.heap.size ≤ gb122)); have GE122 := Aside0.mk ((by rw [hg]; exact (below_size (uW HB.out)) : w.heap.size ≤ gb122)); replace HB := cW HB hb; clear hb hbox hg) | ((with_reducible refine gate_callee (f := 23) rfl ?_); refine goesL_ (some 17) rfl rfl Try.func23 (by kernel_rfl) rfl #[.slice A4 l4.length c4] rfl (by (try simp only [List.map_toArray, List.map_cons, List.map_nil]); first | done | rfl | (simp only [List.length_drop, List.length_take]; rfl)) ?_; (with_reducible refine (emit_entries.calls k (fun k_ => k_ < w.heap.size) _ _ l4 t123 _ ?side1 A6.out).mono ?_); (case side1 => exact Kd.V_mk HC4.out (Kd.F_below (Kd.C_F k50_heap HR4.out) (by repeat (first | (with_reducible first | exact HB.out | apply below_alloc | apply pw_below_drewN | apply below_drew1 | refine below_set ?_ GE122.out) | exact HB.out)))); rintro e w8 ⟨v124, rfl, ho0, hb⟩; refine ⟨_, rfl, ?_⟩; have HO125 := Aside0.mk (Kd.N_lower (Kd.N_mono (ok' := fun k_ => k_ ≠ gb122) ho0 (fun k_ hk_ => Or.elim hk_ (fun hs_ => fun e_ => Nat.not_le.2 hs_ (by rw [e_]; exact GW122.out)) (fun hn_ => (Kd.freshB (g := gb122) (o := .cells #[.int .i64 a0_0, .int .i64 a0_1, .int .i64 a0_2, .int .i64 a0_3, .int .i64 a0_4] 23 (0, 0)) (uB BK122.out) k_ hn_)))) (below_size (by repeat (first | (with_reducible first | exact HB.out | apply below_alloc | apply pw_below_drewN | apply below_drew1 | refine below_set ?_ GE122.out) | exact HB.out)))); replace BK122 := cB BK122 hb; replace HB := Aside0.mk (below_step (by repeat (first | (with_reducible first | exact HB.out | apply below_alloc | apply pw_below_drewN | apply below_drew1 | refine below_set ?_ GE122.out) | exact HB.out)) hb); (try clear hb); (try clear ho0); obtain ⟨Ao9, co9, eo9⟩ := Kd.N_slice HO125.out; subst eo9))
 (try simp only [Act.put, List.setIfInBounds_toArray, List.set_cons_zero, List.set_cons_succ])
 go_loopg [12, 19] k (fun kq v12 v19 w' => ∃ (x12_1 : List Int) (x19_1 : Int), v19 = .int .i64 x19_1 ∧ Aside0 (emit_Next.l0 kq a1 l2 l3 x12_1 t123 (t123.length : Int) x19_1 a0_0 a0_1 a0_2 a0_3 a0_4 = some (r1, r2)) ∧ Aside0 (kq ≤ k) ∧ Aside0 (Kd.R (Kd.int .i64) 2 w' w.heap.size (fun _ => True) v12 x12_1) ∧ Aside0 (Kd.N k70 70 w' w.heap.size (fun k_ => some k_ ≠ (v12 : Value).ownBlock ∧ k_ ≠ gb122) (.slice Ao9 t123.length co9) t123) ∧ Aside0 (w'.heap[gb122]? = some (.cells #[.int .i64 a0_0, .int .i64 a0_1, .int .i64 a0_2, .int .i64 a0_3, .int .i64 a0_4] 23 (0, 0))) ∧ Aside0 (Below w.heap.size w w'))
 case atStart => exact ⟨(([] : List Int)), (0), (by first | rfl | (simp; done) | (simp [*]; done)), H', ⟨Nat.le_refl _⟩, ⟨by first | exact Kd.R_nil _ _ _ _ _ | exact Kd.N_nil _ _ _ _ _ | exact Kd.V_nil _ _ _ _ _ | exact Kd.Q_nil _ _ _ _ _ | exact Kd.S_nil _ _ _ _ _⟩, ⟨by (with_reducible repeat (first | apply Kd.N_alloc | apply Kd.N_drewN | apply Kd.N_drew)); exact Kd.N_mono HO125.out (fun _ hk => ⟨(by simp [Value.ownBlock]), hk⟩)⟩, ⟨by exact uB <| BK122.out⟩, ⟨by repeat (first | (with_reducible first | exact HB.out | apply below_alloc | apply pw_below_drewN | apply below_drew1 | refine below_set ?_ GE122.out) | exact HB.out)⟩⟩
 case round =>
  clear H'
  try clear c2
  try clear p2
  try clear c3
  try clear c4
  try clear c9
  obtain ⟨x12_1, x19_1, rfl, HA, HK1, HO_12, HO_17, BK122, HB⟩ := hrel
  cases gk with
  | zero => exact absurd HA.out (by simp [emit_Next.l0])
  | succ k1 =>
   have H := HA.out
   clear HA
   simp only [emit_Next.l0] at H
   by_cases c10 : x19_1 < (t123.length : Int)
   ·
    rw [if_pos c10] at H
    have c10b0 : decide (x19_1 < (t123.length : Int)) = true := decide_eq_true c10
    clear c10
    obtain ⟨c11, H⟩ := gd H
    have c11b0 : decide (0 ≤ x19_1) = true := decide_eq_true c11
    clear c11
    obtain ⟨c12, H⟩ := gd H
    have c12b0 : decide (x19_1 < (t123.length : Int)) = true := decide_eq_true c12
    clear c12
    replace H := Option.bind_eq_some_iff.mp H
    obtain ⟨t129, A130, H⟩ := H
    replace H : (if t129 = true then (emit_Next.l0 k1 a1 l2 l3 x12_1 t123 (t123.length : Int) (wrap64 (x19_1 + 1)) a0_0 a0_1 a0_2 a0_3 a0_4) else ((win_Closed.f ((rd_T70 t123 x19_1).f0) a0_2 a0_3 a1).bind fun t130 => (if t130 = true then ((seq_Waits.f k1 ((rd_T70 t123 x19_1).f0) l3).bind fun t131 => (if t131 = true then (emit_Next.l0 k1 a1 l2 l3 x12_1 t123 (t123.length : Int) (wrap64 (x19_1 + 1)) a0_0 a0_1 a0_2 a0_3 a0_4) else (if x12_1.length < 17592186044416 then (emit_Next.l0 k1 a1 l2 l3 (x12_1 ++ [(rd_T70 t123 x19_1).f0]) t123 (t123.length : Int) (wrap64 (x19_1 + 1)) a0_0 a0_1 a0_2 a0_3 a0_4) else (none)))) else (emit_Next.l0 k1 a1 l2 l3 x12_1 t123 (t123.length : Int) (wrap64 (x19_1 + 1)) a0_0 a0_1 a0_2 a0_3 a0_4)))) = some (r1, r2) := H
    have A13 := Aside0.mk A130
    clear A130
    by_cases c14 : t129 = true
    ·
     subst c14
     rw [if_pos rfl] at H
     have H' := Aside0.mk H
     clear H
     have p127 : 0 ≤ (x19_1 : Int) := od
     have q127 : x19_1 < (t123.length : Int) := od
     obtain ⟨ad127, A127_2, c127_2, e127, hx127_0, hx127_1, hx127_2, hl127_2, hi127_2⟩ := at_T70 (Kd.N_reads' HO_17.out).2.2 x19_1 p127 q127
     cases e127
     obtain ⟨ce127, hce127, hMe127, hcc127⟩ := Kd.N_get HO_17.out z70 x19_1 p127 (by first | exact q127 | exact od | (have e_ := (Kd.N_reads' HO_17.out).1; omega))
     obtain ⟨ua127_2, uc127_2, rfl, ul127_2, ge127_2⟩ := k70_openF hMe127
     have hv127_2 := hcc127 2 _ rfl
     rw [add_field _ _ 2 (by omega)] at hv127_2
     replace hv127_2 := Option.some.inj (hv127_2.symm.trans hx127_2)
     injection hv127_2 with hva_ hvn_ hvc_
     rw [hva_] at ge127_2
     rw [hvc_] at ul127_2
     have HL127_2 := Aside0.mk (show Kd.V k96 96 _ w.heap.size _ _ ((rd_T70 t123 x19_1).f2) from Kd.V_mk ul127_2 ge127_2)
     clear hva_ hvn_ hvc_ ge127_2 ul127_2
     clear hcc127 hce127
     have HR127_2 := Aside0.mk hi127_2
     have HC127_2 := Aside0.mk hl127_2
     clear hi127_2 hl127_2
     replace p127 := eq_true p127
     replace q127 := eq_true q127
     go_wp2_with (first | ((with_reducible refine gate_dst (N := 14) rfl ?_); refine box_event ?hg (N := 14) ?hd (cs := #[.int .i64 0, .string (⟨#[]⟩ : ByteArray), .slice none 0 0]) (t := 70) ?hr ?_; (case hd => rfl); (case hg => rfl); (case hr => first | (go_simp; done) | (go_simp; rfl)); intro gb128 hg w15 hbox hb; replace HO_12 := cR HO_12 hb; replace HO_17 := Aside0.mk (Kd.N_below (Kd.N_elderB (by (with_reducible repeat (first | apply Kd.N_alloc | apply Kd.N_drewN | apply Kd.N_drew)); exact HO_17.out) gb128 (Nat.le_of_eq hg.symm)) hb); replace HL127_2 := Aside0.mk (Kd.V_below (Kd.V_elderB (uV HL127_2.out) gb128 (Nat.le_of_eq hg.symm)) hb); replace HR127_2 := Aside0.mk (Kd.C_below (by repeat (first | (with_reducible exact HR127_2.out) | (with_reducible refine Kd.C_alloc ?_ _) | (with_reducible refine Kd.C_drewN ?_ _) | (with_reducible refine Kd.C_drew ?_) | exact HR127_2.out)) hb); have BK128 := Aside0.mk (hbox); have GW128 := Aside0.mk ((by rw [hg]; exact (below_size (by repeat (first | (with_reducible first | exact HB.out | apply below_alloc | apply pw_below_drewN | apply below_drew1 | refine below_set ?_ GE122.out) | exact HB.out))) : w.heap.size ≤ gb128)); have GE128 := Aside0.mk ((by rw [hg]; exact (below_size (by repeat (first | (with_reducible first | exact HB.out | apply below_alloc | apply pw_below_drewN | apply below_drew1 | refine below_set ?_ GE122.out) | exact HB.out))) : w.heap.size ≤ gb128)); replace HB := Aside0.mk (below_step (by repeat (first | (with_reducible first | exact HB.out | apply below_alloc | apply pw_below_drewN | apply below_drew1 | refine below_set ?_ GE122.out) | exact HB.out)) hb); have NB122_128 := Aside0.mk ((by rw [hg]; exact Nat.ne_of_lt (blk_lt (g := gb122) (o := .cells #[.int .i64 a0_0, .int .i64 a0_1, .int .i64 a0_2, .int .i64 a0_3, .int .i64 a0_4] 23 (0, 0)) (uB BK122.out)) : gb122 ≠ gb128)); have NB128_122 := Aside0.mk ((by rw [hg]; exact Nat.ne_of_gt (blk_lt (g := gb122) (o := .cells #[.int .i64 a0_0, .int .i64 a0_1, .int .i64 a0_2, .int .i64 a0_3, .int .i64 a0_4] 23 (0, 0)) (uB BK122.out)) : gb128 ≠ gb122)); replace BK122 := cB BK122 hb; clear hb hbox hg; have hnb16 := NB128_122.out; have hnc16 := NB122_128.out; have hcz17_0 : w15.cell? ⟨gb128, 0, none⟩ = some (.int .i64 0) := (blk_cell BK128.out 0).trans rfl; have hcz17_1 : w15.cell? ⟨gb128, 1, none⟩ = some (.string (⟨#[]⟩ : ByteArray)) := (blk_cell BK128.out 1).trans rfl; have hcz17_2 : w15.cell? ⟨gb128, 2, none⟩ = some (.slice none 0 0) := (blk_cell BK128.out 2).trans rfl; have hfz17_0 := blk_frozen BK128.out 0; have hfz17_1 := blk_frozen BK128.out 1; have hfz17_2 := blk_frozen BK128.out 2) | ((with_reducible refine gate_callee (f := 24) rfl ?_); refine goesL_ (some 25) rfl rfl Try.func24 (by kernel_rfl) rfl #[.slice A2 l2.length c2, .func (.func 25) #[] #[.pointer (some ⟨gb128, 0, none⟩)]] rfl (by (try simp only [List.map_toArray, List.map_cons, List.map_nil]); first | done | rfl | (simp only [List.length_drop, List.length_take]; rfl)) ?_; (with_reducible refine (api_Drop_over_25.calls _ _ l2 ((rd_T70 t123 x19_1).f0) true _ ?side1 ?side2 ?side3 A13.out).mono ?_); (case side1 => refine Eq.trans (blk_cell (g := gb128) (cs := #[.int .i64 ((rd_T70 t123 x19_1).f0), .string ((rd_T70 t123 x19_1).f1), .slice A127_2 ((rd_T70 t123 x19_1).f2).length c127_2]) (t := 70) ?_ 0) rfl; (with_reducible repeat (first | refine blk_drewN ?_ _ | refine blk_drew ?_ | refine blk_alloc ?_ _)); refine blk_put (cs := #[.int .i64 ((rd_T70 t123 x19_1).f0), .string ((rd_T70 t123 x19_1).f1), .slice none 0 0]) ?_ 2 _ rfl; (with_reducible repeat (first | refine blk_drewN ?_ _ | refine blk_drew ?_ | refine blk_alloc ?_ _)); refine blk_put (cs := #[.int .i64 ((rd_T70 t123 x19_1).f0), .string (⟨#[]⟩ : ByteArray), .slice none 0 0]) ?_ 1 _ rfl; (with_reducible repeat (first | refine blk_drewN ?_ _ | refine blk_drew ?_ | refine blk_alloc ?_ _)); refine blk_put (cs := #[.int .i64 0, .string (⟨#[]⟩ : ByteArray), .slice none 0 0]) ?_ 0 _ rfl; exact uB <| BK128.out); (case side2 => exact Kd.C_below HR2.out (by repeat (first | (with_reducible first | exact HB.out | apply below_alloc | apply pw_below_drewN | apply below_drew1 | refine below_set ?_ GE122.out | refine below_set ?_ GE128.out) | exact HB.out))); (case side3 => exact HC2.out); rintro e w18 ⟨rfl, hb⟩; refine ⟨_, rfl, ?_⟩; replace HO_12 := Aside0.mk (Kd.R_below (by exact uR <| (Kd.R_mono (Kd.R_far (p := ⟨gb128, 2, none⟩) (Kd.R_far (p := ⟨gb128, 1, none⟩) (Kd.R_far (p := ⟨gb128, 0, none⟩) (Kd.R_types HO_12.out BK128.out (by decide)) (fun _ hk => hk.2) (.int .i64 ((rd_T70 t123 x19_1).f0))) (fun _ hk => hk.2) (.string ((rd_T70 t123 x19_1).f1))) (fun _ hk => hk.2) (.slice A127_2 ((rd_T70 t123 x19_1).f2).length c127_2)) (fun _ h_ => h_.1))) hb); replace HO_17 := Aside0.mk (Kd.N_below (by (with_reducible repeat (first | apply Kd.N_alloc | apply Kd.N_drewN | apply Kd.N_drew)); exact (Kd.N_mono (Kd.N_far (p := ⟨gb128, 2, none⟩) (Kd.N_far (p := ⟨gb128, 1, none⟩) (Kd.N_far (p := ⟨gb128, 0, none⟩) (Kd.N_mono HO_17.out (fun k_ hk => (⟨hk, hk.2⟩ : _ ∧ k_ ≠ gb128))) (fun _ hk => hk.2) (.int .i64 ((rd_T70 t123 x19_1).f0))) (fun _ hk => hk.2) (.string ((rd_T70 t123 x19_1).f1))) (fun _ hk => hk.2) (.slice A127_2 ((rd_T70 t123 x19_1).f2).length c127_2)) (fun _ h_ => h_.1))) hb); replace BK122 := Aside0.mk (blk_below (g := gb122) (o := .cells #[.int .i64 a0_0, .int .i64 a0_1, .int .i64 a0_2, .int .i64 a0_3, .int .i64 a0_4] 23 (0, 0)) (by (with_reducible repeat (first | refine blk_drewN ?_ _ | refine blk_drew ?_ | refine blk_alloc ?_ _)); refine blk_far ?_ NB122_128.out _; (with_reducible repeat (first | refine blk_drewN ?_ _ | refine blk_drew ?_ | refine blk_alloc ?_ _)); refine blk_far ?_ NB122_128.out _; (with_reducible repeat (first | refine blk_drewN ?_ _ | refine blk_drew ?_ | refine blk_alloc ?_ _)); refine blk_far ?_ NB122_128.out _; exact uB <| BK122.out) hb); replace HR127_2 := Aside0.mk (Kd.C_below ((Kd.V_reads' (by exact uV <| (Kd.V_mono (Kd.V_far (p := ⟨gb128, 2, none⟩) (Kd.V_far (p := ⟨gb128, 1, none⟩) (Kd.V_far (p := ⟨gb128, 0, none⟩) (Kd.V_mono HL127_2.out (fun k_ hk => (⟨hk, hk.2⟩ : _ ∧ k_ ≠ gb128))) (fun _ hk => hk.2) (.int .i64 ((rd_T70 t123 x19_1).f0))) (fun _ hk => hk.2) (.string ((rd_T70 t123 x19_1).f1))) (fun _ hk => hk.2) (.slice A127_2 ((rd_T70 t123 x19_1).f2).length c127_2)) (fun _ h_ => h_.1)))).2.2) hb); replace HL127_2 := Aside0.mk (Kd.V_below (by exact uV <| (Kd.V_mono (Kd.V_far (p := ⟨gb128, 2, none⟩) (Kd.V_far (p := ⟨gb128, 1, none⟩) (Kd.V_far (p := ⟨gb128, 0, none⟩) (Kd.V_mono HL127_2.out (fun k_ hk => (⟨hk, hk.2⟩ : _ ∧ k_ ≠ gb128))) (fun _ hk => hk.2) (.int .i64 ((rd_T70 t123 x19_1).f0))) (fun _ hk => hk.2) (.string ((rd_T70 t123 x19_1).f1))) (fun _ hk => hk.2) (.slice A127_2 ((rd_T70 t123 x19_1).f2).length c127_2)) (fun _ h_ => h_.1))) hb); replace BK128 := Aside0.mk (blk_below (g := gb128) (o := .cells #[.int .i64 ((rd_T70 t123 x19_1).f0), .string ((rd_T70 t123 x19_1).f1), .slice A127_2 ((rd_T70 t123 x19_1).f2).length c127_2] 70 (0, 0)) (by (with_reducible repeat (first | refine blk_drewN ?_ _ | refine blk_drew ?_ | refine blk_alloc ?_ _)); refine blk_put (cs := #[.int .i64 ((rd_T70 t123 x19_1).f0), .string ((rd_T70 t123 x19_1).f1), .slice none 0 0]) ?_ 2 _ rfl; (with_reducible repeat (first | refine blk_drewN ?_ _ | refine blk_drew ?_ | refine blk_alloc ?_ _)); refine blk_put (cs := #[.int .i64 ((rd_T70 t123 x19_1).f0), .string (⟨#[]⟩ : ByteArray), .slice none 0 0]) ?_ 1 _ rfl; (with_reducible repeat (first | refine blk_drewN ?_ _ | refine blk_drew ?_ | refine blk_alloc ?_ _)); refine blk_put (cs := #[.int .i64 0, .string (⟨#[]⟩ : ByteArray), .slice none 0 0]) ?_ 0 _ rfl; exact uB <| BK128.out) hb); replace HB := Aside0.mk (below_step (by repeat (first | (with_reducible first | exact HB.out | apply below_alloc | apply pw_below_drewN | apply below_drew1 | refine below_set ?_ GE122.out | refine below_set ?_ GE128.out) | exact HB.out)) hb); (try clear hb)))
     go_roundg k1
     case measure => have := HK1.out; omega
     case rel => exact ⟨(x12_1), (wrap64 (x19_1 + 1)), (by first | rfl | (simp; done) | (simp [*]; done)), H', ⟨by have := HK1.out; omega⟩, ⟨by exact uR <| HO_12.out⟩, ⟨by (with_reducible repeat (first | apply Kd.N_alloc | apply Kd.N_drewN | apply Kd.N_drew)); exact Kd.N_mono HO_17.out (fun _ hk => ⟨hk.1.1, hk.1.2⟩)⟩, ⟨by exact uB <| BK122.out⟩, ⟨by repeat (first | (with_reducible first | exact HB.out | apply below_alloc | apply pw_below_drewN | apply below_drew1 | refine below_set ?_ GE122.out | refine below_set ?_ GE128.out) | exact HB.out)⟩⟩
    ·
     replace c14 := Bool.eq_false_iff.mpr c14
     subst c14
     rw [if_neg (show ¬ (false = true) by decide)] at H
     replace H := Option.bind_eq_some_iff.mp H
     obtain ⟨t130, A190, H⟩ := H
     replace H : (if t130 = true then ((seq_Waits.f k1 ((rd_T70 t123 x19_1).f0) l3).bind fun t131 => (if t131 = true then (emit_Next.l0 k1 a1 l2 l3 x12_1 t123 (t123.length : Int) (wrap64 (x19_1 + 1)) a0_0 a0_1 a0_2 a0_3 a0_4) else (if x12_1.length < 17592186044416 then (emit_Next.l0 k1 a1 l2 l3 (x12_1 ++ [(rd_T70 t123 x19_1).f0]) t123 (t123.length : Int) (wrap64 (x19_1 + 1)) a0_0 a0_1 a0_2 a0_3 a0_4) else (none)))) else (emit_Next.l0 k1 a1 l2 l3 x12_1 t123 (t123.length : Int) (wrap64 (x19_1 + 1)) a0_0 a0_1 a0_2 a0_3 a0_4)) = some (r1, r2) := H
     have A19 := Aside0.mk A190
     clear A190
     by_cases c20 : t130 = true
     ·
      subst c20
      rw [if_pos rfl] at H
      replace H := Option.bind_eq_some_iff.mp H
      obtain ⟨t131, A210, H⟩ := H
      replace H : (if t131 = true then (emit_Next.l0 k1 a1 l2 l3 x12_1 t123 (t123.length : Int) (wrap64 (x19_1 + 1)) a0_0 a0_1 a0_2 a0_3 a0_4) else (if x12_1.length < 17592186044416 then (emit_Next.l0 k1 a1 l2 l3 (x12_1 ++ [(rd_T70 t123 x19_1).f0]) t123 (t123.length : Int) (wrap64 (x19_1 + 1)) a0_0 a0_1 a0_2 a0_3 a0_4) else (none))) = some (r1, r2) := H
      have A21 := Aside0.mk A210
      clear A210
      by_cases c22 : t131 = true
      ·
       subst c22
       rw [if_pos rfl] at H
       have H' := Aside0.mk H
       clear H
       have p127 : 0 ≤ (x19_1 : Int) := od
       have q127 : x19_1 < (t123.length : Int) := od
       obtain ⟨ad127, A127_2, c127_2, e127, hx127_0, hx127_1, hx127_2, hl127_2, hi127_2⟩ := at_T70 (Kd.N_reads' HO_17.out).2.2 x19_1 p127 q127
       cases e127
       obtain ⟨ce127, hce127, hMe127, hcc127⟩ := Kd.N_get HO_17.out z70 x19_1 p127 (by first | exact q127 | exact od | (have e_ := (Kd.N_reads' HO_17.out).1; omega))
       obtain ⟨ua127_2, uc127_2, rfl, ul127_2, ge127_2⟩ := k70_openF hMe127
       have hv127_2 := hcc127 2 _ rfl
       rw [add_field _ _ 2 (by omega)] at hv127_2
       replace hv127_2 := Option.some.inj (hv127_2.symm.trans hx127_2)
       injection hv127_2 with hva_ hvn_ hvc_
       rw [hva_] at ge127_2
       rw [hvc_] at ul127_2
       have HL127_2 := Aside0.mk (show Kd.V k96 96 _ w.heap.size _ _ ((rd_T70 t123 x19_1).f2) from Kd.V_mk ul127_2 ge127_2)
       clear hva_ hvn_ hvc_ ge127_2 ul127_2
       clear hcc127 hce127
       have HR127_2 := Aside0.mk hi127_2
       have HC127_2 := Aside0.mk hl127_2
       clear hi127_2 hl127_2
       replace p127 := eq_true p127
       replace q127 := eq_true q127
       go_wp2_with (first | ((with_reducible refine gate_dst (N := 14) rfl ?_); refine box_event ?hg (N := 14) ?hd (cs := #[.int .i64 0, .string (⟨#[]⟩ : ByteArray), .slice none 0 0]) (t := 70) ?hr ?_; (case hd => rfl); (case hg => rfl); (case hr => first | (go_simp; done) | (go_simp; rfl)); intro gb128 hg w23 hbox hb; replace HO_12 := cR HO_12 hb; replace HO_17 := Aside0.mk (Kd.N_below (Kd.N_elderB (by (with_reducible repeat (first | apply Kd.N_alloc | apply Kd.N_drewN | apply Kd.N_drew)); exact HO_17.out) gb128 (Nat.le_of_eq hg.symm)) hb); replace HL127_2 := Aside0.mk (Kd.V_below (Kd.V_elderB (uV HL127_2.out) gb128 (Nat.le_of_eq hg.symm)) hb); replace HR127_2 := Aside0.mk (Kd.C_below (by repeat (first | (with_reducible exact HR127_2.out) | (with_reducible refine Kd.C_alloc ?_ _) | (with_reducible refine Kd.C_drewN ?_ _) | (with_reducible refine Kd.C_drew ?_) | exact HR127_2.out)) hb); have BK128 := Aside0.mk (hbox); have GW128 := Aside0.mk ((by rw [hg]; exact (below_size (by repeat (first | (with_reducible first | exact HB.out | apply below_alloc | apply pw_below_drewN | apply below_drew1 | refine below_set ?_ GE122.out) | exact HB.out))) : w.heap.size ≤ gb128)); have GE128 := Aside0.mk ((by rw [hg]; exact (below_size (by repeat (first | (with_reducible first | exact HB.out | apply below_alloc | apply pw_below_drewN | apply below_drew1 | refine below_set ?_ GE122.out) | exact HB.out))) : w.heap.size ≤ gb128)); replace HB := Aside0.mk (below_step (by repeat (first | (with_reducible first | exact HB.out | apply below_alloc | apply pw_below_drewN | apply below_drew1 | refine below_set ?_ GE122.out) | exact HB.out)) hb); have NB122_128 := Aside0.mk ((by rw [hg]; exact Nat.ne_of_lt (blk_lt (g := gb122) (o := .cells #[.int .i64 a0_0, .int .i64 a0_1, .int .i64 a0_2, .int .i64 a0_3, .int .i64 a0_4] 23 (0, 0)) (uB BK122.out)) : gb122 ≠ gb128)); have NB128_122 := Aside0.mk ((by rw [hg]; exact Nat.ne_of_gt (blk_lt (g := gb122) (o := .cells #[.int .i64 a0_0, .int .i64 a0_1, .int .i64 a0_2, .int .i64 a0_3, .int .i64 a0_4] 23 (0, 0)) (uB BK122.out)) : gb128 ≠ gb122)); replace BK122 := cB BK122 hb; clear hb hbox hg; have hnb24 := NB128_122.out; have hnc24 := NB122_128.out; have hcz25_0 : w23.cell? ⟨gb128, 0, none⟩ = some (.int .i64 0) := (blk_cell BK128.out 0).trans rfl; have hcz25_1 : w23.cell? ⟨gb128, 1, none⟩ = some (.string (⟨#[]⟩ : ByteArray)) := (blk_cell BK128.out 1).trans rfl; have hcz25_2 : w23.cell? ⟨gb128, 2, none⟩ = some (.slice none 0 0) := (blk_cell BK128.out 2).trans rfl; have hfz25_0 := blk_frozen BK128.out 0; have hfz25_1 := blk_frozen BK128.out 1; have hfz25_2 := blk_frozen BK128.out 2) | ((with_reducible refine gate_callee (f := 24) rfl ?_); refine goesL_ (some 25) rfl rfl Try.func24 (by kernel_rfl) rfl #[.slice A2 l2.length c2, .func (.func 25) #[] #[.pointer (some ⟨gb128, 0, none⟩)]] rfl (by (try simp only [List.map_toArray, List.map_cons, List.map_nil]); first | done | rfl | (simp only [List.length_drop, List.length_take]; rfl)) ?_; (with_reducible refine (api_Drop_over_25.calls _ _ l2 ((rd_T70 t123 x19_1).f0) false _ ?side1 ?side2 ?side3 A13.out).mono ?_); (case side1 => refine Eq.trans (blk_cell (g := gb128) (cs := #[.int .i64 ((rd_T70 t123 x19_1).f0), .string ((rd_T70 t123 x19_1).f1), .slice A127_2 ((rd_T70 t123 x19_1).f2).length c127_2]) (t := 70) ?_ 0) rfl; (with_reducible repeat (first | refine blk_drewN ?_ _ | refine blk_drew ?_ | refine blk_alloc ?_ _)); refine blk_put (cs := #[.int .i64 ((rd_T70 t123 x19_1).f0), .string ((rd_T70 t123 x19_1).f1), .slice none 0 0]) ?_ 2 _ rfl; (with_reducible repeat (first | refine blk_drewN ?_ _ | refine blk_drew ?_ | refine blk_alloc ?_ _)); refine blk_put (cs := #[.int .i64 ((rd_T70 t123 x19_1).f0), .string (⟨#[]⟩ : ByteArray), .slice none 0 0]) ?_ 1 _ rfl; (with_reducible repeat (first | refine blk_drewN ?_ _ | refine blk_drew ?_ | refine blk_alloc ?_ _)); refine blk_put (cs := #[.int .i64 0, .string (⟨#[]⟩ : ByteArray), .slice none 0 0]) ?_ 0 _ rfl; exact uB <| BK128.out); (case side2 => exact Kd.C_below HR2.out (by repeat (first | (with_reducible first | exact HB.out | apply below_alloc | apply pw_below_drewN | apply below_drew1 | refine below_set ?_ GE122.out | refine below_set ?_ GE128.out) | exact HB.out))); (case side3 => exact HC2.out); rintro e w26 ⟨rfl, hb⟩; refine ⟨_, rfl, ?_⟩; replace HO_12 := Aside0.mk (Kd.R_below (by exact uR <| (Kd.R_mono (Kd.R_far (p := ⟨gb128, 2, none⟩) (Kd.R_far (p := ⟨gb128, 1, none⟩) (Kd.R_far (p := ⟨gb128, 0, none⟩) (Kd.R_types HO_12.out BK128.out (by decide)) (fun _ hk => hk.2) (.int .i64 ((rd_T70 t123 x19_1).f0))) (fun _ hk => hk.2) (.string ((rd_T70 t123 x19_1).f1))) (fun _ hk => hk.2) (.slice A127_2 ((rd_T70 t123 x19_1).f2).length c127_2)) (fun _ h_ => h_.1))) hb); replace HO_17 := Aside0.mk (Kd.N_below (by (with_reducible repeat (first | apply Kd.N_alloc | apply Kd.N_drewN | apply Kd.N_drew)); exact (Kd.N_mono (Kd.N_far (p := ⟨gb128, 2, none⟩) (Kd.N_far (p := ⟨gb128, 1, none⟩) (Kd.N_far (p := ⟨gb128, 0, none⟩) (Kd.N_mono HO_17.out (fun k_ hk => (⟨hk, hk.2⟩ : _ ∧ k_ ≠ gb128))) (fun _ hk => hk.2) (.int .i64 ((rd_T70 t123 x19_1).f0))) (fun _ hk => hk.2) (.string ((rd_T70 t123 x19_1).f1))) (fun _ hk => hk.2) (.slice A127_2 ((rd_T70 t123 x19_1).f2).length c127_2)) (fun _ h_ => h_.1))) hb); replace BK122 := Aside0.mk (blk_below (g := gb122) (o := .cells #[.int .i64 a0_0, .int .i64 a0_1, .int .i64 a0_2, .int .i64 a0_3, .int .i64 a0_4] 23 (0, 0)) (by (with_reducible repeat (first | refine blk_drewN ?_ _ | refine blk_drew ?_ | refine blk_alloc ?_ _)); refine blk_far ?_ NB122_128.out _; (with_reducible repeat (first | refine blk_drewN ?_ _ | refine blk_drew ?_ | refine blk_alloc ?_ _)); refine blk_far ?_ NB122_128.out _; (with_reducible repeat (first | refine blk_drewN ?_ _ | refine blk_drew ?_ | refine blk_alloc ?_ _)); refine blk_far ?_ NB122_128.out _; exact uB <| BK122.out) hb); replace HR127_2 := Aside0.mk (Kd.C_below ((Kd.V_reads' (by exact uV <| (Kd.V_mono (Kd.V_far (p := ⟨gb128, 2, none⟩) (Kd.V_far (p := ⟨gb128, 1, none⟩) (Kd.V_far (p := ⟨gb128, 0, none⟩) (Kd.V_mono HL127_2.out (fun k_ hk => (⟨hk, hk.2⟩ : _ ∧ k_ ≠ gb128))) (fun _ hk => hk.2) (.int .i64 ((rd_T70 t123 x19_1).f0))) (fun _ hk => hk.2) (.string ((rd_T70 t123 x19_1).f1))) (fun _ hk => hk.2) (.slice A127_2 ((rd_T70 t123 x19_1).f2).length c127_2)) (fun _ h_ => h_.1)))).2.2) hb); replace HL127_2 := Aside0.mk (Kd.V_below (by exact uV <| (Kd.V_mono (Kd.V_far (p := ⟨gb128, 2, none⟩) (Kd.V_far (p := ⟨gb128, 1, none⟩) (Kd.V_far (p := ⟨gb128, 0, none⟩) (Kd.V_mono HL127_2.out (fun k_ hk => (⟨hk, hk.2⟩ : _ ∧ k_ ≠ gb128))) (fun _ hk => hk.2) (.int .i64 ((rd_T70 t123 x19_1).f0))) (fun _ hk => hk.2) (.string ((rd_T70 t123 x19_1).f1))) (fun _ hk => hk.2) (.slice A127_2 ((rd_T70 t123 x19_1).f2).length c127_2)) (fun _ h_ => h_.1))) hb); replace BK128 := Aside0.mk (blk_below (g := gb128) (o := .cells #[.int .i64 ((rd_T70 t123 x19_1).f0), .string ((rd_T70 t123 x19_1).f1), .slice A127_2 ((rd_T70 t123 x19_1).f2).length c127_2] 70 (0, 0)) (by (with_reducible repeat (first | refine blk_drewN ?_ _ | refine blk_drew ?_ | refine blk_alloc ?_ _)); refine blk_put (cs := #[.int .i64 ((rd_T70 t123 x19_1).f0), .string ((rd_T70 t123 x19_1).f1), .slice none 0 0]) ?_ 2 _ rfl; (with_reducible repeat (first | refine blk_drewN ?_ _ | refine blk_drew ?_ | refine blk_alloc ?_ _)); refine blk_put (cs := #[.int .i64 ((rd_T70 t123 x19_1).f0), .string (⟨#[]⟩ : ByteArray), .slice none 0 0]) ?_ 1 _ rfl; (with_reducible repeat (first | refine blk_drewN ?_ _ | refine blk_drew ?_ | refine blk_alloc ?_ _)); refine blk_put (cs := #[.int .i64 0, .string (⟨#[]⟩ : ByteArray), .slice none 0 0]) ?_ 0 _ rfl; exact uB <| BK128.out) hb); replace HB := Aside0.mk (below_step (by repeat (first | (with_reducible first | exact HB.out | apply below_alloc | apply pw_below_drewN | apply below_drew1 | refine below_set ?_ GE122.out | refine below_set ?_ GE128.out) | exact HB.out)) hb); (try clear hb); have hcz27_0 : w26.cell? ⟨gb128, 0, none⟩ = some (.int .i64 ((rd_T70 t123 x19_1).f0)) := (blk_cell BK128.out 0).trans rfl; have hcz27_1 : w26.cell? ⟨gb128, 1, none⟩ = some (.string ((rd_T70 t123 x19_1).f1)) := (blk_cell BK128.out 1).trans rfl; have hcz27_2 : w26.cell? ⟨gb128, 2, none⟩ = some (.slice A127_2 ((rd_T70 t123 x19_1).f2).length c127_2) := (blk_cell BK128.out 2).trans rfl; have hfz27_0 := blk_frozen BK128.out 0; have hfz27_1 := blk_frozen BK128.out 1; have hfz27_2 := blk_frozen BK128.out 2; have hcz28_0 : w26.cell? ⟨gb122, 0, none⟩ = some (.int .i64 a0_0) := (blk_cell BK122.out 0).trans rfl; have hcz28_1 : w26.cell? ⟨gb122, 1, none⟩ = some (.int .i64 a0_1) := (blk_cell BK122.out 1).trans rfl; have hcz28_2 : w26.cell? ⟨gb122, 2, none⟩ = some (.int .i64 a0_2) := (blk_cell BK122.out 2).trans rfl; have hcz28_3 : w26.cell? ⟨gb122, 3, none⟩ = some (.int .i64 a0_3) := (blk_cell BK122.out 3).trans rfl; have hcz28_4 : w26.cell? ⟨gb122, 4, none⟩ = some (.int .i64 a0_4) := (blk_cell BK122.out 4).trans rfl; have hfz28_0 := blk_frozen BK122.out 0; have hfz28_1 := blk_frozen BK122.out 1; have hfz28_2 := blk_frozen BK122.out 2; have hfz28_3 := blk_frozen BK122.out 3; have hfz28_4 := blk_frozen BK122.out 4) | (go_at_call 26; (with_reducible refine (win_Closed.calls ((rd_T70 t123 x19_1).f0) a0_2 a0_3 a1 true _ A19.out).mono ?_); rintro e w' ⟨rfl, ⟨nd, rfl⟩⟩) | (go_at_call 27; (with_reducible refine (seq_Waits.calls k1 ((rd_T70 t123 x19_1).f0) _ _ l3 true _ ?side1 ?side2 A21.out).mono ?_); (case side1 => repeat (first | exact (Kd.C_below HR3.out (by repeat (first | (with_reducible first | exact HB.out | apply below_alloc | apply pw_below_drewN | apply below_drew1 | refine below_set ?_ GE122.out | refine below_set ?_ GE128.out) | exact HB.out))) | (with_reducible refine Kd.C_alloc ?_ _) | (with_reducible refine Kd.C_drewN ?_ _) | (with_reducible refine Kd.C_drew ?_))); (case side2 => exact HC3.out); rintro e w29 ⟨rfl, hb⟩; replace HO_12 := cR HO_12 hb; replace HO_17 := Aside0.mk (Kd.N_below (by (with_reducible repeat (first | apply Kd.N_alloc | apply Kd.N_drewN | apply Kd.N_drew)); exact HO_17.out) hb); replace HL127_2 := cV HL127_2 hb; replace BK122 := cB BK122 hb; replace HR127_2 := Aside0.mk (Kd.C_below (by repeat (first | (with_reducible exact HR127_2.out) | (with_reducible refine Kd.C_alloc ?_ _) | (with_reducible refine Kd.C_drewN ?_ _) | (with_reducible refine Kd.C_drew ?_) | exact HR127_2.out)) hb); replace BK128 := cB BK128 hb; replace HB := Aside0.mk (below_step (by repeat (first | (with_reducible first | exact HB.out | apply below_alloc | apply pw_below_drewN | apply below_drew1 | refine below_set ?_ GE122.out | refine below_set ?_ GE128.out) | exact HB.out)) hb); (try clear hb)))
       go_roundg k1
       case measure => have := HK1.out; omega
       case rel => exact ⟨(x12_1), (wrap64 (x19_1 + 1)), (by first | rfl | (simp; done) | (simp [*]; done)), H', ⟨by have := HK1.out; omega⟩, ⟨by exact uR <| HO_12.out⟩, ⟨by (with_reducible repeat (first | apply Kd.N_alloc | apply Kd.N_drewN | apply Kd.N_drew)); exact Kd.N_mono HO_17.out (fun _ hk => ⟨hk.1.1, hk.1.2⟩)⟩, ⟨by exact uB <| BK122.out⟩, ⟨by repeat (first | (with_reducible first | exact HB.out | apply below_alloc | apply pw_below_drewN | apply below_drew1 | refine below_set ?_ GE122.out | refine below_set ?_ GE128.out) | exact HB.out)⟩⟩
      ·
       replace c22 := Bool.eq_false_iff.mpr c22
       subst c22
       rw [if_neg (show ¬ (false = true) by decide)] at H
       obtain ⟨c30, H⟩ := gd H
       have LMc30 := Aside0.mk c30
       clear c30
       obtain ⟨y132, hy132⟩ : ∃ y_ : List Int, y_ = (x12_1 ++ [(rd_T70 t123 x19_1).f0]) := ⟨_, rfl⟩
       replace H : (emit_Next.l0 k1 a1 l2 l3 y132 t123 (t123.length : Int) (wrap64 (x19_1 + 1)) a0_0 a0_1 a0_2 a0_3 a0_4) = some (r1, r2) := by first | (rw [hy132]; with_reducible exact H) | (have H2_ := (Option.bind_some _ _).symm.trans H; rw [hy132]; with_reducible exact H2_) | (have H2_ := (Option.bind_some _ _).symm.trans H; with_reducible exact H2_) | with_reducible exact H | (rw [hy132]; exact H) | exact H
       have Ny132 := Aside0.mk hy132
       clear hy132
       have H' := Aside0.mk H
       clear H
       have p127 : 0 ≤ (x19_1 : Int) := od
       have q127 : x19_1 < (t123.length : Int) := od
       obtain ⟨ad127, A127_2, c127_2, e127, hx127_0, hx127_1, hx127_2, hl127_2, hi127_2⟩ := at_T70 (Kd.N_reads' HO_17.out).2.2 x19_1 p127 q127
       cases e127
       obtain ⟨ce127, hce127, hMe127, hcc127⟩ := Kd.N_get HO_17.out z70 x19_1 p127 (by first | exact q127 | exact od | (have e_ := (Kd.N_reads' HO_17.out).1; omega))
       obtain ⟨ua127_2, uc127_2, rfl, ul127_2, ge127_2⟩ := k70_openF hMe127
       have hv127_2 := hcc127 2 _ rfl
       rw [add_field _ _ 2 (by omega)] at hv127_2
       replace hv127_2 := Option.some.inj (hv127_2.symm.trans hx127_2)
       injection hv127_2 with hva_ hvn_ hvc_
       rw [hva_] at ge127_2
       rw [hvc_] at ul127_2
       have HL127_2 := Aside0.mk (show Kd.V k96 96 _ w.heap.size _ _ ((rd_T70 t123 x19_1).f2) from Kd.V_mk ul127_2 ge127_2)
       clear hva_ hvn_ hvc_ ge127_2 ul127_2
       clear hcc127 hce127
       have HR127_2 := Aside0.mk hi127_2
       have HC127_2 := Aside0.mk hl127_2
       clear hi127_2 hl127_2
       replace p127 := eq_true p127
       replace q127 := eq_true q127
       go_wp2_with (first | ((with_reducible refine gate_dst (N := 14) rfl ?_); refine box_event ?hg (N := 14) ?hd (cs := #[.int .i64 0, .string (⟨#[]⟩ : ByteArray), .slice none 0 0]) (t := 70) ?hr ?_; (case hd => rfl); (case hg => rfl); (case hr => first | (go_simp; done) | (go_simp; rfl)); intro gb128 hg w31 hbox hb; replace HO_12 := cR HO_12 hb; replace HO_17 := Aside0.mk (Kd.N_below (Kd.N_elderB (by (with_reducible repeat (first | apply Kd.N_alloc | apply Kd.N_drewN | apply Kd.N_drew)); exact HO_17.out) gb128 (Nat.le_of_eq hg.symm)) hb); replace HL127_2 := Aside0.mk (Kd.V_below (Kd.V_elderB (uV HL127_2.out) gb128 (Nat.le_of_eq hg.symm)) hb); replace HR127_2 := Aside0.mk (Kd.C_below (by repeat (first | (with_reducible exact HR127_2.out) | (with_reducible refine Kd.C_alloc ?_ _) | (with_reducible refine Kd.C_drewN ?_ _) | (with_reducible refine Kd.C_drew ?_) | exact HR127_2.out)) hb); have BK128 := Aside0.mk (hbox); have GW128 := Aside0.mk ((by rw [hg]; exact (below_size (by repeat (first | (with_reducible first | exact HB.out | apply below_alloc | apply pw_below_drewN | apply below_drew1 | refine below_set ?_ GE122.out) | exact HB.out))) : w.heap.size ≤ gb128)); have GE128 := Aside0.mk ((by rw [hg]; exact (below_size (by repeat (first | (with_reducible first | exact HB.out | apply below_alloc | apply pw_below_drewN | apply below_drew1 | refine below_set ?_ GE122.out) | exact HB.out))) : w.heap.size ≤ gb128)); replace HB := Aside0.mk (below_step (by repeat (first | (with_reducible first | exact HB.out | apply below_alloc | apply pw_below_drewN | apply below_drew1 | refine below_set ?_ GE122.out) | exact HB.out)) hb); have NB122_128 := Aside0.mk ((by rw [hg]; exact Nat.ne_of_lt (blk_lt (g := gb122) (o := .cells #[.int .i64 a0_0, .int .i64 a0_1, .int .i64 a0_2, .int .i64 a0_3, .int .i64 a0_4] 23 (0, 0)) (uB BK122.out)) : gb122 ≠ gb128)); have NB128_122 := Aside0.mk ((by rw [hg]; exact Nat.ne_of_gt (blk_lt (g := gb122) (o := .cells #[.int .i64 a0_0, .int .i64 a0_1, .int .i64 a0_2, .int .i64 a0_3, .int .i64 a0_4] 23 (0, 0)) (uB BK122.out)) : gb128 ≠ gb122)); replace BK122 := cB BK122 hb; clear hb hbox hg; have hnb32 := NB128_122.out; have hnc32 := NB122_128.out; have hcz33_0 : w31.cell? ⟨gb128, 0, none⟩ = some (.int .i64 0) := (blk_cell BK128.out 0).trans rfl; have hcz33_1 : w31.cell? ⟨gb128, 1, none⟩ = some (.string (⟨#[]⟩ : ByteArray)) := (blk_cell BK128.out 1).trans rfl; have hcz33_2 : w31.cell? ⟨gb128, 2, none⟩ = some (.slice none 0 0) := (blk_cell BK128.out 2).trans rfl; have hfz33_0 := blk_frozen BK128.out 0; have hfz33_1 := blk_frozen BK128.out 1; have hfz33_2 := blk_frozen BK128.out 2) | ((with_reducible refine gate_callee (f := 24) rfl ?_); refine goesL_ (some 25) rfl rfl Try.func24 (by kernel_rfl) rfl #[.slice A2 l2.length c2, .func (.func 25) #[] #[.pointer (some ⟨gb128, 0, none⟩)]] rfl (by (try simp only [List.map_toArray, List.map_cons, List.map_nil]); first | done | rfl | (simp only [List.length_drop, List.length_take]; rfl)) ?_; (with_reducible refine (api_Drop_over_25.calls _ _ l2 ((rd_T70 t123 x19_1).f0) false _ ?side1 ?side2 ?side3 A13.out).mono ?_); (case side1 => refine Eq.trans (blk_cell (g := gb128) (cs := #[.int .i64 ((rd_T70 t123 x19_1).f0), .string ((rd_T70 t123 x19_1).f1), .slice A127_2 ((rd_T70 t123 x19_1).f2).length c127_2]) (t := 70) ?_ 0) rfl; (with_reducible repeat (first | refine blk_drewN ?_ _ | refine blk_drew ?_ | refine blk_alloc ?_ _)); refine blk_put (cs := #[.int .i64 ((rd_T70 t123 x19_1).f0), .string ((rd_T70 t123 x19_1).f1), .slice none 0 0]) ?_ 2 _ rfl; (with_reducible repeat (first | refine blk_drewN ?_ _ | refine blk_drew ?_ | refine blk_alloc ?_ _)); refine blk_put (cs := #[.int .i64 ((rd_T70 t123 x19_1).f0), .string (⟨#[]⟩ : ByteArray), .slice none 0 0]) ?_ 1 _ rfl; (with_reducible repeat (first | refine blk_drewN ?_ _ | refine blk_drew ?_ | refine blk_alloc ?_ _)); refine blk_put (cs := #[.int .i64 0, .string (⟨#[]⟩ : ByteArray), .slice none 0 0]) ?_ 0 _ rfl; exact uB <| BK128.out); (case side2 => exact Kd.C_below HR2.out (by repeat (first | (with_reducible first | exact HB.out | apply below_alloc | apply pw_below_drewN | apply below_drew1 | refine below_set ?_ GE122.out | refine below_set ?_ GE128.out) | exact HB.out))); (case side3 => exact HC2.out); rintro e w34 ⟨rfl, hb⟩; refine ⟨_, rfl, ?_⟩; replace HO_12 := Aside0.mk (Kd.R_below (by exact uR <| (Kd.R_mono (Kd.R_far (p := ⟨gb128, 2, none⟩) (Kd.R_far (p := ⟨gb128, 1, none⟩) (Kd.R_far (p := ⟨gb128, 0, none⟩) (Kd.R_types HO_12.out BK128.out (by decide)) (fun _ hk => hk.2) (.int .i64 ((rd_T70 t123 x19_1).f0))) (fun _ hk => hk.2) (.string ((rd_T70 t123 x19_1).f1))) (fun _ hk => hk.2) (.slice A127_2 ((rd_T70 t123 x19_1).f2).length c127_2)) (fun _ h_ => h_.1))) hb); replace HO_17 := Aside0.mk (Kd.N_below (by (with_reducible repeat (first | apply Kd.N_alloc | apply Kd.N_drewN | apply Kd.N_drew)); exact (Kd.N_mono (Kd.N_far (p := ⟨gb128, 2, none⟩) (Kd.N_far (p := ⟨gb128, 1, none⟩) (Kd.N_far (p := ⟨gb128, 0, none⟩) (Kd.N_mono HO_17.out (fun k_ hk => (⟨hk, hk.2⟩ : _ ∧ k_ ≠ gb128))) (fun _ hk => hk.2) (.int .i64 ((rd_T70 t123 x19_1).f0))) (fun _ hk => hk.2) (.string ((rd_T70 t123 x19_1).f1))) (fun _ hk => hk.2) (.slice A127_2 ((rd_T70 t123 x19_1).f2).length c127_2)) (fun _ h_ => h_.1))) hb); replace BK122 := Aside0.mk (blk_below (g := gb122) (o := .cells #[.int .i64 a0_0, .int .i64 a0_1, .int .i64 a0_2, .int .i64 a0_3, .int .i64 a0_4] 23 (0, 0)) (by (with_reducible repeat (first | refine blk_drewN ?_ _ | refine blk_drew ?_ | refine blk_alloc ?_ _)); refine blk_far ?_ NB122_128.out _; (with_reducible repeat (first | refine blk_drewN ?_ _ | refine blk_drew ?_ | refine blk_alloc ?_ _)); refine blk_far ?_ NB122_128.out _; (with_reducible repeat (first | refine blk_drewN ?_ _ | refine blk_drew ?_ | refine blk_alloc ?_ _)); refine blk_far ?_ NB122_128.out _; exact uB <| BK122.out) hb); replace HR127_2 := Aside0.mk (Kd.C_below ((Kd.V_reads' (by exact uV <| (Kd.V_mono (Kd.V_far (p := ⟨gb128, 2, none⟩) (Kd.V_far (p := ⟨gb128, 1, none⟩) (Kd.V_far (p := ⟨gb128, 0, none⟩) (Kd.V_mono HL127_2.out (fun k_ hk => (⟨hk, hk.2⟩ : _ ∧ k_ ≠ gb128))) (fun _ hk => hk.2) (.int .i64 ((rd_T70 t123 x19_1).f0))) (fun _ hk => hk.2) (.string ((rd_T70 t123 x19_1).f1))) (fun _ hk => hk.2) (.slice A127_2 ((rd_T70 t123 x19_1).f2).length c127_2)) (fun _ h_ => h_.1)))).2.2) hb); replace HL127_2 := Aside0.mk (Kd.V_below (by exact uV <| (Kd.V_mono (Kd.V_far (p := ⟨gb128, 2, none⟩) (Kd.V_far (p := ⟨gb128, 1, none⟩) (Kd.V_far (p := ⟨gb128, 0, none⟩) (Kd.V_mono HL127_2.out (fun k_ hk => (⟨hk, hk.2⟩ : _ ∧ k_ ≠ gb128))) (fun _ hk => hk.2) (.int .i64 ((rd_T70 t123 x19_1).f0))) (fun _ hk => hk.2) (.string ((rd_T70 t123 x19_1).f1))) (fun _ hk => hk.2) (.slice A127_2 ((rd_T70 t123 x19_1).f2).length c127_2)) (fun _ h_ => h_.1))) hb); replace BK128 := Aside0.mk (blk_below (g := gb128) (o := .cells #[.int .i64 ((rd_T70 t123 x19_1).f0), .string ((rd_T70 t123 x19_1).f1), .slice A127_2 ((rd_T70 t123 x19_1).f2).length c127_2] 70 (0, 0)) (by (with_reducible repeat (first | refine blk_drewN ?_ _ | refine blk_drew ?_ | refine blk_alloc ?_ _)); refine blk_put (cs := #[.int .i64 ((rd_T70 t123 x19_1).f0), .string ((rd_T70 t123 x19_1).f1), .slice none 0 0]) ?_ 2 _ rfl; (with_reducible repeat (first | refine blk_drewN ?_ _ | refine blk_drew ?_ | refine blk_alloc ?_ _)); refine blk_put (cs := #[.int .i64 ((rd_T70 t123 x19_1).f0), .string (⟨#[]⟩ : ByteArray), .slice none 0 0]) ?_ 1 _ rfl; (with_reducible repeat (first | refine blk_drewN ?_ _ | refine blk_drew ?_ | refine blk_alloc ?_ _)); refine blk_put (cs := #[.int .i64 0, .string (⟨#[]⟩ : ByteArray), .slice none 0 0]) ?_ 0 _ rfl; exact uB <| BK128.out) hb); replace HB := Aside0.mk (below_step (by repeat (first | (with_reducible first | exact HB.out | apply below_alloc | apply pw_below_drewN | apply below_drew1 | refine below_set ?_ GE122.out | refine below_set ?_ GE128.out) | exact HB.out)) hb); (try clear hb); have hcz35_0 : w34.cell? ⟨gb128, 0, none⟩ = some (.int .i64 ((rd_T70 t123 x19_1).f0)) := (blk_cell BK128.out 0).trans rfl; have hcz35_1 : w34.cell? ⟨gb128, 1, none⟩ = some (.string ((rd_T70 t123 x19_1).f1)) := (blk_cell BK128.out 1).trans rfl; have hcz35_2 : w34.cell? ⟨gb128, 2, none⟩ = some (.slice A127_2 ((rd_T70 t123 x19_1).f2).length c127_2) := (blk_cell BK128.out 2).trans rfl; have hfz35_0 := blk_frozen BK128.out 0; have hfz35_1 := blk_frozen BK128.out 1; have hfz35_2 := blk_frozen BK128.out 2; have hcz36_0 : w34.cell? ⟨gb122, 0, none⟩ = some (.int .i64 a0_0) := (blk_cell BK122.out 0).trans rfl; have hcz36_1 : w34.cell? ⟨gb122, 1, none⟩ = some (.int .i64 a0_1) := (blk_cell BK122.out 1).trans rfl; have hcz36_2 : w34.cell? ⟨gb122, 2, none⟩ = some (.int .i64 a0_2) := (blk_cell BK122.out 2).trans rfl; have hcz36_3 : w34.cell? ⟨gb122, 3, none⟩ = some (.int .i64 a0_3) := (blk_cell BK122.out 3).trans rfl; have hcz36_4 : w34.cell? ⟨gb122, 4, none⟩ = some (.int .i64 a0_4) := (blk_cell BK122.out 4).trans rfl; have hfz36_0 := blk_frozen BK122.out 0; have hfz36_1 := blk_frozen BK122.out 1; have hfz36_2 := blk_frozen BK122.out 2; have hfz36_3 := blk_frozen BK122.out 3; have hfz36_4 := blk_frozen BK122.out 4) | (go_at_call 26; (with_reducible refine (win_Closed.calls ((rd_T70 t123 x19_1).f0) a0_2 a0_3 a1 true _ A19.out).mono ?_); rintro e w' ⟨rfl, ⟨nd, rfl⟩⟩) | (go_at_call 27; (with_reducible refine (seq_Waits.calls k1 ((rd_T70 t123 x19_1).f0) _ _ l3 false _ ?side1 ?side2 A21.out).mono ?_); (case side1 => repeat (first | exact (Kd.C_below HR3.out (by repeat (first | (with_reducible first | exact HB.out | apply below_alloc | apply pw_below_drewN | apply below_drew1 | refine below_set ?_ GE122.out | refine below_set ?_ GE128.out) | exact HB.out))) | (with_reducible refine Kd.C_alloc ?_ _) | (with_reducible refine Kd.C_drewN ?_ _) | (with_reducible refine Kd.C_drew ?_))); (case side2 => exact HC3.out); rintro e w37 ⟨rfl, hb⟩; replace HO_12 := cR HO_12 hb; replace HO_17 := Aside0.mk (Kd.N_below (by (with_reducible repeat (first | apply Kd.N_alloc | apply Kd.N_drewN | apply Kd.N_drew)); exact HO_17.out) hb); replace HL127_2 := cV HL127_2 hb; replace BK122 := cB BK122 hb; replace HR127_2 := Aside0.mk (Kd.C_below (by repeat (first | (with_reducible exact HR127_2.out) | (with_reducible refine Kd.C_alloc ?_ _) | (with_reducible refine Kd.C_drewN ?_ _) | (with_reducible refine Kd.C_drew ?_) | exact HR127_2.out)) hb); replace BK128 := cB BK128 hb; replace HB := Aside0.mk (below_step (by repeat (first | (with_reducible first | exact HB.out | apply below_alloc | apply pw_below_drewN | apply below_drew1 | refine below_set ?_ GE122.out | refine below_set ?_ GE128.out) | exact HB.out)) hb); (try clear hb); have hcz38_0 : w37.cell? ⟨gb128, 0, none⟩ = some (.int .i64 ((rd_T70 t123 x19_1).f0)) := (blk_cell BK128.out 0).trans rfl; have hcz38_1 : w37.cell? ⟨gb128, 1, none⟩ = some (.string ((rd_T70 t123 x19_1).f1)) := (blk_cell BK128.out 1).trans rfl; have hcz38_2 : w37.cell? ⟨gb128, 2, none⟩ = some (.slice A127_2 ((rd_T70 t123 x19_1).f2).length c127_2) := (blk_cell BK128.out 2).trans rfl; have hfz38_0 := blk_frozen BK128.out 0; have hfz38_1 := blk_frozen BK128.out 1; have hfz38_2 := blk_frozen BK128.out 2) | ((with_reducible refine gate_builtin (b := .append) (xs := #[.tmp 45, .tmp 48]) rfl ?_); at_builtin; refine Kd.R_append (Kd.int .i64) (w0 := w) w.heap.size rfl (.tmp 45) (.tmp 48) 65 2 (.int .i64 0) 8 rfl Try.underlying65 info2 rfl (by decide) (by omega) u12 x12_1 ((rd_T70 t123 x19_1).f0) [.int .i64 ((rd_T70 t123 x19_1).f0)] (fun _ => True) (fun _ => False) rfl rfl ?aP (fun _ hk => hk.elim) ?aF ?aO ?aB ?aS ?aL ?_; (case aP => exact rfl); (case aB => exact (by repeat (first | (with_reducible first | exact HB.out | apply below_alloc | apply pw_below_drewN | apply below_drew1 | refine below_set ?_ GE122.out | refine below_set ?_ GE128.out) | exact HB.out))); (case aF => exact (fun _ _ => trivial)); (case aO => exact (uR HO_12.out)); (case aS => exact (below_size (by repeat (first | (with_reducible first | exact HB.out | apply below_alloc | apply pw_below_drewN | apply below_drew1 | refine below_set ?_ GE122.out | refine below_set ?_ GE128.out) | exact HB.out)))); (case aL => have := LMc30.out; omega); intro v133 w39 ho hb hg hat; rw [← Ny132.out] at ho; replace HO_17 := Aside0.mk (Kd.N_afterv (ok := (fun k_ => k_ ≠ gb122 ∧ k_ ≠ gb128)) (by (with_reducible repeat (first | apply Kd.N_alloc | apply Kd.N_drewN | apply Kd.N_drew)); exact Kd.N_mono HO_17.out (fun _ hk => ⟨⟨hk.1.2, hk.2⟩, hk.1.1⟩)) hg hat); replace BK122 := Aside0.mk (blk_grown (g := gb122) (o := .cells #[.int .i64 a0_0, .int .i64 a0_1, .int .i64 a0_2, .int .i64 a0_3, .int .i64 a0_4] 23 (0, 0)) (uB BK122.out) hg (Kd.R_ne HO_12.out BK122.out (by decide))); replace HL127_2 := Aside0.mk (Kd.V_afterv (ok := (fun k_ => some k_ ≠ (.slice (some ad127) t123.length co9 : Value).ownBlock ∧ k_ ≠ gb122 ∧ k_ ≠ gb128)) (by exact uV <| Kd.V_mono HL127_2.out (fun _ hk => ⟨⟨hk.1.2, ⟨hk.1.1.2, hk.2⟩⟩, hk.1.1.1⟩)) hg hat); replace BK128 := Aside0.mk (blk_grown (g := gb128) (o := .cells #[.int .i64 ((rd_T70 t123 x19_1).f0), .string ((rd_T70 t123 x19_1).f1), .slice A127_2 ((rd_T70 t123 x19_1).f2).length c127_2] 70 (0, 0)) (uB BK128.out) hg (Kd.R_ne HO_12.out BK128.out (by decide))); replace HB := Aside0.mk (hb); have HO134 := Aside0.mk (ho); clear HO_12; clear ho hb hg hat))
       go_roundg k1
       case measure => have := HK1.out; omega
       case rel => exact ⟨(y132), (wrap64 (x19_1 + 1)), (by first | rfl | (simp; done) | (simp [*]; done)), H', ⟨by have := HK1.out; omega⟩, ⟨by exact uR <| HO134.out⟩, ⟨by (with_reducible repeat (first | apply Kd.N_alloc | apply Kd.N_drewN | apply Kd.N_drew)); exact Kd.N_mono HO_17.out (fun _ hk => ⟨hk.2, hk.1.1⟩)⟩, ⟨by exact uB <| BK122.out⟩, ⟨by repeat (first | (with_reducible first | exact HB.out | apply below_alloc | apply pw_below_drewN | apply below_drew1 | refine below_set ?_ GE122.out | refine below_set ?_ GE128.out) | exact HB.out)⟩⟩
     ·
      replace c20 := Bool.eq_false_iff.mpr c20
      subst c20
      rw [if_neg (show ¬ (false = true) by decide)] at H
      have H' := Aside0.mk H
      clear H
      have p127 : 0 ≤ (x19_1 : Int) := od
      have q127 : x19_1 < (t123.length : Int) := od
      obtain ⟨ad127, A127_2, c127_2, e127, hx127_0, hx127_1, hx127_2, hl127_2, hi127_2⟩ := at_T70 (Kd.N_reads' HO_17.out).2.2 x19_1 p127 q127
      cases e127
      obtain ⟨ce127, hce127, hMe127, hcc127⟩ := Kd.N_get HO_17.out z70 x19_1 p127 (by first | exact q127 | exact od | (have e_ := (Kd.N_reads' HO_17.out).1; omega))
      obtain ⟨ua127_2, uc127_2, rfl, ul127_2, ge127_2⟩ := k70_openF hMe127
      have hv127_2 := hcc127 2 _ rfl
      rw [add_field _ _ 2 (by omega)] at hv127_2
      replace hv127_2 := Option.some.inj (hv127_2.symm.trans hx127_2)
      injection hv127_2 with hva_ hvn_ hvc_
      rw [hva_] at ge127_2
      rw [hvc_] at ul127_2
      have HL127_2 := Aside0.mk (show Kd.V k96 96 _ w.heap.size _ _ ((rd_T70 t123 x19_1).f2) from Kd.V_mk ul127_2 ge127_2)
      clear hva_ hvn_ hvc_ ge127_2 ul127_2
      clear hcc127 hce127
      have HR127_2 := Aside0.mk hi127_2
      have HC127_2 := Aside0.mk hl127_2
      clear hi127_2 hl127_2
      replace p127 := eq_true p127
      replace q127 := eq_true q127
      go_wp2_with (first | ((with_reducible refine gate_dst (N := 14) rfl ?_); refine box_event ?hg (N := 14) ?hd (cs := #[.int .i64 0, .string (⟨#[]⟩ : ByteArray), .slice none 0 0]) (t := 70) ?hr ?_; (case hd => rfl); (case hg => rfl); (case hr => first | (go_simp; done) | (go_simp; rfl)); intro gb128 hg w40 hbox hb; replace HO_12 := cR HO_12 hb; replace HO_17 := Aside0.mk (Kd.N_below (Kd.N_elderB (by (with_reducible repeat (first | apply Kd.N_alloc | apply Kd.N_drewN | apply Kd.N_drew)); exact HO_17.out) gb128 (Nat.le_of_eq hg.symm)) hb); replace HL127_2 := Aside0.mk (Kd.V_below (Kd.V_elderB (uV HL127_2.out) gb128 (Nat.le_of_eq hg.symm)) hb); replace HR127_2 := Aside0.mk (Kd.C_below (by repeat (first | (with_reducible exact HR127_2.out) | (with_reducible refine Kd.C_alloc ?_ _) | (with_reducible refine Kd.C_drewN ?_ _) | (with_reducible refine Kd.C_drew ?_) | exact HR127_2.out)) hb); have BK128 := Aside0.mk (hbox); have GW128 := Aside0.mk ((by rw [hg]; exact (below_size (by repeat (first | (with_reducible first | exact HB.out | apply below_alloc | apply pw_below_drewN | apply below_drew1 | refine below_set ?_ GE122.out) | exact HB.out))) : w.heap.size ≤ gb128)); have GE128 := Aside0.mk ((by rw [hg]; exact (below_size (by repeat (first | (with_reducible first | exact HB.out | apply below_alloc | apply pw_below_drewN | apply below_drew1 | refine below_set ?_ GE122.out) | exact HB.out))) : w.heap.size ≤ gb128)); replace HB := Aside0.mk (below_step (by repeat (first | (with_reducible first | exact HB.out | apply below_alloc | apply pw_below_drewN | apply below_drew1 | refine below_set ?_ GE122.out) | exact HB.out)) hb); have NB122_128 := Aside0.mk ((by rw [hg]; exact Nat.ne_of_lt (blk_lt (g := gb122) (o := .cells #[.int .i64 a0_0, .int .i64 a0_1, .int .i64 a0_2, .int .i64 a0_3, .int .i64 a0_4] 23 (0, 0)) (uB BK122.out)) : gb122 ≠ gb128)); have NB128_122 := Aside0.mk ((by rw [hg]; exact Nat.ne_of_gt (blk_lt (g := gb122) (o := .cells #[.int .i64 a0_0, .int .i64 a0_1, .int .i64 a0_2, .int .i64 a0_3, .int .i64 a0_4] 23 (0, 0)) (uB BK122.out)) : gb128 ≠ gb122)); replace BK122 := cB BK122 hb; clear hb hbox hg; have hnb41 := NB128_122.out; have hnc41 := NB122_128.out; have hcz42_0 : w40.cell? ⟨gb128, 0, none⟩ = some (.int .i64 0) := (blk_cell BK128.out 0).trans rfl; have hcz42_1 : w40.cell? ⟨gb128, 1, none⟩ = some (.string (⟨#[]⟩ : ByteArray)) := (blk_cell BK128.out 1).trans rfl; have hcz42_2 : w40.cell? ⟨gb128, 2, none⟩ = some (.slice none 0 0) := (blk_cell BK128.out 2).trans rfl; have hfz42_0 := blk_frozen BK128.out 0; have hfz42_1 := blk_frozen BK128.out 1; have hfz42_2 := blk_frozen BK128.out 2) | ((with_reducible refine gate_callee (f := 24) rfl ?_); refine goesL_ (some 25) rfl rfl Try.func24 (by kernel_rfl) rfl #[.slice A2 l2.length c2, .func (.func 25) #[] #[.pointer (some ⟨gb128, 0, none⟩)]] rfl (by (try simp only [List.map_toArray, List.map_cons, List.map_nil]); first | done | rfl | (simp only [List.length_drop, List.length_take]; rfl)) ?_; (with_reducible refine (api_Drop_over_25.calls _ _ l2 ((rd_T70 t123 x19_1).f0) false _ ?side1 ?side2 ?side3 A13.out).mono ?_); (case side1 => refine Eq.trans (blk_cell (g := gb128) (cs := #[.int .i64 ((rd_T70 t123 x19_1).f0), .string ((rd_T70 t123 x19_1).f1), .slice A127_2 ((rd_T70 t123 x19_1).f2).length c127_2]) (t := 70) ?_ 0) rfl; (with_reducible repeat (first | refine blk_drewN ?_ _ | refine blk_drew ?_ | refine blk_alloc ?_ _)); refine blk_put (cs := #[.int .i64 ((rd_T70 t123 x19_1).f0), .string ((rd_T70 t123 x19_1).f1), .slice none 0 0]) ?_ 2 _ rfl; (with_reducible repeat (first | refine blk_drewN ?_ _ | refine blk_drew ?_ | refine blk_alloc ?_ _)); refine blk_put (cs := #[.int .i64 ((rd_T70 t123 x19_1).f0), .string (⟨#[]⟩ : ByteArray), .slice none 0 0]) ?_ 1 _ rfl; (with_reducible repeat (first | refine blk_drewN ?_ _ | refine blk_drew ?_ | refine blk_alloc ?_ _)); refine blk_put (cs := #[.int .i64 0, .string (⟨#[]⟩ : ByteArray), .slice none 0 0]) ?_ 0 _ rfl; exact uB <| BK128.out); (case side2 => exact Kd.C_below HR2.out (by repeat (first | (with_reducible first | exact HB.out | apply below_alloc | apply pw_below_drewN | apply below_drew1 | refine below_set ?_ GE122.out | refine below_set ?_ GE128.out) | exact HB.out))); (case side3 => exact HC2.out); rintro e w43 ⟨rfl, hb⟩; refine ⟨_, rfl, ?_⟩; replace HO_12 := Aside0.mk (Kd.R_below (by exact uR <| (Kd.R_mono (Kd.R_far (p := ⟨gb128, 2, none⟩) (Kd.R_far (p := ⟨gb128, 1, none⟩) (Kd.R_far (p := ⟨gb128, 0, none⟩) (Kd.R_types HO_12.out BK128.out (by decide)) (fun _ hk => hk.2) (.int .i64 ((rd_T70 t123 x19_1).f0))) (fun _ hk => hk.2) (.string ((rd_T70 t123 x19_1).f1))) (fun _ hk => hk.2) (.slice A127_2 ((rd_T70 t123 x19_1).f2).length c127_2)) (fun _ h_ => h_.1))) hb); replace HO_17 := Aside0.mk (Kd.N_below (by (with_reducible repeat (first | apply Kd.N_alloc | apply Kd.N_drewN | apply Kd.N_drew)); exact (Kd.N_mono (Kd.N_far (p := ⟨gb128, 2, none⟩) (Kd.N_far (p := ⟨gb128, 1, none⟩) (Kd.N_far (p := ⟨gb128, 0, none⟩) (Kd.N_mono HO_17.out (fun k_ hk => (⟨hk, hk.2⟩ : _ ∧ k_ ≠ gb128))) (fun _ hk => hk.2) (.int .i64 ((rd_T70 t123 x19_1).f0))) (fun _ hk => hk.2) (.string ((rd_T70 t123 x19_1).f1))) (fun _ hk => hk.2) (.slice A127_2 ((rd_T70 t123 x19_1).f2).length c127_2)) (fun _ h_ => h_.1))) hb); replace BK122 := Aside0.mk (blk_below (g := gb122) (o := .cells #[.int .i64 a0_0, .int .i64 a0_1, .int .i64 a0_2, .int .i64 a0_3, .int .i64 a0_4] 23 (0, 0)) (by (with_reducible repeat (first | refine blk_drewN ?_ _ | refine blk_drew ?_ | refine blk_alloc ?_ _)); refine blk_far ?_ NB122_128.out _; (with_reducible repeat (first | refine blk_drewN ?_ _ | refine blk_drew ?_ | refine blk_alloc ?_ _)); refine blk_far ?_ NB122_128.out _; (with_reducible repeat (first | refine blk_drewN ?_ _ | refine blk_drew ?_ | refine blk_alloc ?_ _)); refine blk_far ?_ NB122_128.out _; exact uB <| BK122.out) hb); replace HR127_2 := Aside0.mk (Kd.C_below ((Kd.V_reads' (by exact uV <| (Kd.V_mono (Kd.V_far (p := ⟨gb128, 2, none⟩) (Kd.V_far (p := ⟨gb128, 1, none⟩) (Kd.V_far (p := ⟨gb128, 0, none⟩) (Kd.V_mono HL127_2.out (fun k_ hk => (⟨hk, hk.2⟩ : _ ∧ k_ ≠ gb128))) (fun _ hk => hk.2) (.int .i64 ((rd_T70 t123 x19_1).f0))) (fun _ hk => hk.2) (.string ((rd_T70 t123 x19_1).f1))) (fun _ hk => hk.2) (.slice A127_2 ((rd_T70 t123 x19_1).f2).length c127_2)) (fun _ h_ => h_.1)))).2.2) hb); replace HL127_2 := Aside0.mk (Kd.V_below (by exact uV <| (Kd.V_mono (Kd.V_far (p := ⟨gb128, 2, none⟩) (Kd.V_far (p := ⟨gb128, 1, none⟩) (Kd.V_far (p := ⟨gb128, 0, none⟩) (Kd.V_mono HL127_2.out (fun k_ hk => (⟨hk, hk.2⟩ : _ ∧ k_ ≠ gb128))) (fun _ hk => hk.2) (.int .i64 ((rd_T70 t123 x19_1).f0))) (fun _ hk => hk.2) (.string ((rd_T70 t123 x19_1).f1))) (fun _ hk => hk.2) (.slice A127_2 ((rd_T70 t123 x19_1).f2).length c127_2)) (fun _ h_ => h_.1))) hb); replace BK128 := Aside0.mk (blk_below (g := gb128) (o := .cells #[.int .i64 ((rd_T70 t123 x19_1).f0), .string ((rd_T70 t123 x19_1).f1), .slice A127_2 ((rd_T70 t123 x19_1).f2).length c127_2] 70 (0, 0)) (by (with_reducible repeat (first | refine blk_drewN ?_ _ | refine blk_drew ?_ | refine blk_alloc ?_ _)); refine blk_put (cs := #[.int .i64 ((rd_T70 t123 x19_1).f0), .string ((rd_T70 t123 x19_1).f1), .slice none 0 0]) ?_ 2 _ rfl; (with_reducible repeat (first | refine blk_drewN ?_ _ | refine blk_drew ?_ | refine blk_alloc ?_ _)); refine blk_put (cs := #[.int .i64 ((rd_T70 t123 x19_1).f0), .string (⟨#[]⟩ : ByteArray), .slice none 0 0]) ?_ 1 _ rfl; (with_reducible repeat (first | refine blk_drewN ?_ _ | refine blk_drew ?_ | refine blk_alloc ?_ _)); refine blk_put (cs := #[.int .i64 0, .string (⟨#[]⟩ : ByteArray), .slice none 0 0]) ?_ 0 _ rfl; exact uB <| BK128.out) hb); replace HB := Aside0.mk (below_step (by repeat (first | (with_reducible first | exact HB.out | apply below_alloc | apply pw_below_drewN | apply below_drew1 | refine below_set ?_ GE122.out | refine below_set ?_ GE128.out) | exact HB.out)) hb); (try clear hb); have hcz44_0 : w43.cell? ⟨gb128, 0, none⟩ = some (.int .i64 ((rd_T70 t123 x19_1).f0)) := (blk_cell BK128.out 0).trans rfl; have hcz44_1 : w43.cell? ⟨gb128, 1, none⟩ = some (.string ((rd_T70 t123 x19_1).f1)) := (blk_cell BK128.out 1).trans rfl; have hcz44_2 : w43.cell? ⟨gb128, 2, none⟩ = some (.slice A127_2 ((rd_T70 t123 x19_1).f2).length c127_2) := (blk_cell BK128.out 2).trans rfl; have hfz44_0 := blk_frozen BK128.out 0; have hfz44_1 := blk_frozen BK128.out 1; have hfz44_2 := blk_frozen BK128.out 2; have hcz45_0 : w43.cell? ⟨gb122, 0, none⟩ = some (.int .i64 a0_0) := (blk_cell BK122.out 0).trans rfl; have hcz45_1 : w43.cell? ⟨gb122, 1, none⟩ = some (.int .i64 a0_1) := (blk_cell BK122.out 1).trans rfl; have hcz45_2 : w43.cell? ⟨gb122, 2, none⟩ = some (.int .i64 a0_2) := (blk_cell BK122.out 2).trans rfl; have hcz45_3 : w43.cell? ⟨gb122, 3, none⟩ = some (.int .i64 a0_3) := (blk_cell BK122.out 3).trans rfl; have hcz45_4 : w43.cell? ⟨gb122, 4, none⟩ = some (.int .i64 a0_4) := (blk_cell BK122.out 4).trans rfl; have hfz45_0 := blk_frozen BK122.out 0; have hfz45_1 := blk_frozen BK122.out 1; have hfz45_2 := blk_frozen BK122.out 2; have hfz45_3 := blk_frozen BK122.out 3; have hfz45_4 := blk_frozen BK122.out 4) | (go_at_call 26; (with_reducible refine (win_Closed.calls ((rd_T70 t123 x19_1).f0) a0_2 a0_3 a1 false _ A19.out).mono ?_); rintro e w' ⟨rfl, ⟨nd, rfl⟩⟩))
      go_roundg k1
      case measure => have := HK1.out; omega
      case rel => exact ⟨(x12_1), (wrap64 (x19_1 + 1)), (by first | rfl | (simp; done) | (simp [*]; done)), H', ⟨by have := HK1.out; omega⟩, ⟨by exact uR <| HO_12.out⟩, ⟨by (with_reducible repeat (first | apply Kd.N_alloc | apply Kd.N_drewN | apply Kd.N_drew)); exact Kd.N_mono HO_17.out (fun _ hk => ⟨hk.1.1, hk.1.2⟩)⟩, ⟨by exact uB <| BK122.out⟩, ⟨by repeat (first | (with_reducible first | exact HB.out | apply below_alloc | apply pw_below_drewN | apply below_drew1 | refine below_set ?_ GE122.out | refine below_set ?_ GE128.out) | exact HB.out)⟩⟩
   ·
    rw [if_neg c10] at H
    have c10b0 : decide (x19_1 < (t123.length : Int)) = false := decide_eq_false c10
    clear c10
    by_cases c46 : (x12_1.length : Int) = 0
    ·
     rw [if_pos c46] at H
     have c46b0 : ((x12_1.length : Int) == 0) = true := beq_iff_eq.mpr c46
     have c46b1 : ((x12_1.length : Int) != 0) = false := bne_eq_false_iff_eq.mpr c46
     clear c46
     simp only [Option.some.injEq, Prod.mk.injEq] at H
     obtain ⟨rfl, rfl⟩ := H
     obtain ⟨Ao47, co47, eo47⟩ := Kd.R_slice HO_12.out
     subst eo47
     go_wp2
     go_ret2
     exact ⟨by first | rfl | (simp [errW_none, errW_some] <;> rfl) | (simp [*, errW_none, errW_some] <;> rfl), by repeat (first | (with_reducible first | exact HB.out | apply below_alloc | apply pw_below_drewN | apply below_drew1 | refine below_set ?_ GE122.out) | exact HB.out)⟩
    ·
     rw [if_neg c46] at H
     have c46b0 : ((x12_1.length : Int) == 0) = false := beq_eq_false_iff_ne.mpr c46
     have c46b1 : ((x12_1.length : Int) != 0) = true := bne_iff_ne.mpr c46
     have c46b2 : ¬ (x12_1 = []) := fun h_ => c46 (by rw [h_]; rfl)
     replace H := Option.bind_eq_some_iff.mp H
     obtain ⟨t126, A480, H⟩ := H
     replace H : (some (t126, true)) = some (r1, r2) := H
     have A48 := Aside0.mk A480
     clear A480
     simp only [Option.some.injEq, Prod.mk.injEq] at H
     obtain ⟨rfl, rfl⟩ := H
     obtain ⟨Ao49, co49, eo49⟩ := Kd.R_slice HO_12.out
     subst eo49
     go_wp2_with (first | ((with_reducible refine gate_callee (f := 28) rfl ?_); refine goesL_ (some 55) rfl rfl Try.func28 (by kernel_rfl) rfl #[.slice Ao49 x12_1.length co49] rfl (by (try simp only [List.map_toArray, List.map_cons, List.map_nil]); first | done | rfl | (simp only [List.length_drop, List.length_take]; rfl)) ?_; (with_reducible refine (slices_Min_int64_int64.calls k1 _ _ x12_1 t126 _ ?side1 ?side2 A48.out).mono ?_); (case side1 => repeat (first | exact (Kd.R_reads' HO_12.out).2.2 | (with_reducible refine Kd.C_alloc ?_ _) | (with_reducible refine Kd.C_drewN ?_ _) | (with_reducible refine Kd.C_drew ?_))); (case side2 => exact (Kd.R_reads' HO_12.out).2.1); rintro e w50 ⟨rfl, hb⟩; refine ⟨_, rfl, ?_⟩; replace HO_12 := cR HO_12 hb; replace HO_17 := Aside0.mk (Kd.N_below (by (with_reducible repeat (first | apply Kd.N_alloc | apply Kd.N_drewN | apply Kd.N_drew)); exact HO_17.out) hb); replace BK122 := cB BK122 hb; replace HB := Aside0.mk (below_step (by repeat (first | (with_reducible first | exact HB.out | apply below_alloc | apply pw_below_drewN | apply below_drew1 | refine below_set ?_ GE122.out) | exact HB.out)) hb); (try clear hb)))
     go_ret2
     exact ⟨by first | rfl | (simp [errW_none, errW_some] <;> rfl) | (simp [*, errW_none, errW_some] <;> rfl), by repeat (first | (with_reducible first | exact HB.out | apply below_alloc | apply pw_below_drewN | apply below_drew1 | refine below_set ?_ GE122.out) | exact HB.out)⟩

/-! ### chain_newest: function 51 -/
def chain_newest.l0 : Nat → List (S96) → Int → Int → Option (Int)
 | 0, _, _, _ => none
 | k + 1, x0, x1, x5 => if x5 ≥ 0 then (if 0 ≤ x5 then (if x5 < (x0.length : Int) then (if ((rd_T96 x0 x5).f0) ≤ x1 then (some x5) else (chain_newest.l0 k x0 x1 (wrap64 (x5 - 1)))) else (none)) else (none)) else (some (-1))
def chain_newest.f (k : Nat) (l0 : List (S96)) (a1 : Int) : Option (Int) := chain_newest.l0 k l0 a1 (wrap64 ((l0.length : Int) - 1))
theorem chain_newest.mono_l : ∀ k, (∀ y0 y1 y2, LeO (chain_newest.l0 k y0 y1 y2) (chain_newest.l0 (k + 1) y0 y1 y2))
 | 0 => fun _ _ _ r h => by simp [chain_newest.l0] at h
 | k + 1 => by
  have ih0 := chain_newest.mono_l k
  ·
   intro y0 y1 y2
   unfold chain_newest.l0
   repeat' first
   | (with_reducible exact ih0 _ _ _)
   | (with_reducible exact LeO.refl _)
   | (with_reducible exact LeO.none _)
   | (with_reducible refine LeO.ite ?_ ?_)
   | (with_reducible refine LeO.bind ?_ (fun _ => ?_))
   | exact ih0 _ _ _
   | exact LeO.none _
   | refine LeO.ite ?_ ?_
   | refine LeO.bind ?_ (fun _ => ?_)
theorem chain_newest.mono : ∀ a0 a1 k, LeO (chain_newest.f k a0 a1) (chain_newest.f (k + 1) a0 a1) := by
 intro a0 a1 k
 have ih0 := chain_newest.mono_l k
 unfold chain_newest.f
 repeat' first
  | (with_reducible exact ih0 _ _ _)
  | (with_reducible exact LeO.refl _)
  | (with_reducible exact LeO.none _)
  | (with_reducible refine LeO.ite ?_ ?_)
  | (with_reducible refine LeO.bind ?_ (fun _ => ?_))
  | exact ih0 _ _ _
  | exact LeO.none _
  | refine LeO.ite ?_ ?_
  | refine LeO.bind ?_ (fun _ => ?_)
set_option maxHeartbeats 8000000 in
set_option maxRecDepth 100000 in
theorem chain_newest.calls (k : Nat) (A0 : Option Addr) (c0 : Nat) (l0 : List (S96)) (a1 : Int) (r : Int) (w : World) (hr0 : Kd.C k96 w A0 l0.length l0) (hc0 : l0.length ≤ c0) (h : chain_newest.f k l0 a1 = some r) :
 Calls Try.prog 51 #[.slice A0 l0.length c0, .int .i64 a1] w fun e w' => e = .returned (.int .i64 r) ∧ Drawn0 w w' := by
 have HR0 := Aside0.mk hr0
 have HC0 := Aside0.mk hc0
 clear hr0 hc0
 have H : (chain_newest.l0 k l0 a1 (wrap64 ((l0.length : Int) - 1))) = some r := h
 clear h
 have H' := Aside0.mk H
 clear H
 go_enter Try.func51, Try.ntmps51
 go_wp2
 go_loopg [5] k (fun kq v5 w' => ∃ (x5_1 : Int), v5 = .int .i64 x5_1 ∧ Aside0 (chain_newest.l0 kq l0 a1 x5_1 = some r) ∧ Aside0 (kq ≤ k) ∧ Drawn0 w w')
 case atStart => exact ⟨(wrap64 ((l0.length : Int) - 1)), (by first | rfl | (simp; done) | (simp [*]; done)), H', ⟨Nat.le_refl _⟩, by repeat (first | exact Drawn0.refl _ | apply Drawn0.step)⟩
 case round =>
  clear H'
  try clear p2
  obtain ⟨x5_1, rfl, HA, HK1, ⟨m1, rfl⟩⟩ := hrel
  cases gk with
  | zero => exact absurd HA.out (by simp [chain_newest.l0])
  | succ k1 =>
   have H := HA.out
   clear HA
   simp only [chain_newest.l0] at H
   by_cases c3 : x5_1 ≥ 0
   ·
    rw [if_pos c3] at H
    have c3b0 : decide (0 ≤ x5_1) = true := decide_eq_true c3
    clear c3
    obtain ⟨c4, H⟩ := gd H
    have c4b0 : decide (0 ≤ x5_1) = true := decide_eq_true c4
    clear c4
    obtain ⟨c5, H⟩ := gd H
    have c5b0 : decide (x5_1 < (l0.length : Int)) = true := decide_eq_true c5
    clear c5
    by_cases c6 : ((rd_T96 l0 x5_1).f0) ≤ a1
    ·
     rw [if_pos c6] at H
     have c6b0 : decide (((rd_T96 l0 x5_1).f0) ≤ a1) = true := decide_eq_true c6
     clear c6
     obtain rfl := Option.some.inj H
     have p135 : 0 ≤ (x5_1 : Int) := od
     have q135 : x5_1 < (l0.length : Int) := od
     obtain ⟨ad135, e135, hx135_0, hx135_1, hx135_2, hx135_3, hx135_4, hx135_5⟩ := at_T96 HR0.out x5_1 p135 q135
     cases e135
     replace p135 := eq_true p135
     replace q135 := eq_true q135
     go_wp2
     go_ret
     exact ⟨by first | rfl | (simp; done) | (simp [*]; done), by repeat (first | exact Drawn0.refl _ | apply Drawn0.step)⟩
    ·
     rw [if_neg c6] at H
     have c6b0 : decide (((rd_T96 l0 x5_1).f0) ≤ a1) = false := decide_eq_false c6
     clear c6
     have H' := Aside0.mk H
     clear H
     have p135 : 0 ≤ (x5_1 : Int) := od
     have q135 : x5_1 < (l0.length : Int) := od
     obtain ⟨ad135, e135, hx135_0, hx135_1, hx135_2, hx135_3, hx135_4, hx135_5⟩ := at_T96 HR0.out x5_1 p135 q135
     cases e135
     replace p135 := eq_true p135
     replace q135 := eq_true q135
     go_wp2
     go_roundg k1
     case measure => have := HK1.out; omega
     case rel => exact ⟨(wrap64 (x5_1 - 1)), (by first | rfl | (simp; done) | (simp [*]; done)), H', ⟨by have := HK1.out; omega⟩, by repeat (first | exact Drawn0.refl _ | apply Drawn0.step)⟩
   ·
    rw [if_neg c3] at H
    have c3b0 : decide (0 ≤ x5_1) = false := decide_eq_false c3
    clear c3
    obtain rfl := Option.some.inj H
    go_wp2
    go_ret
    exact ⟨by first | rfl | (simp; done) | (simp [*]; done), by repeat (first | exact Drawn0.refl _ | apply Drawn0.step)⟩

end Go.Proofs.Ytklhjponikgkkaa.X
