/- Printed by a program of this session's own: what functions of the program compute, and that the machine computes it. No condition of its own. -/
import Derived.Test.YtofaindjbhmopaaM3
import Derived.Test.YtofaindjbhmopaaM5
import Derived.Test.YtofaindjbhmopaaM4
namespace Go.Proofs.Ytofaindjbhmopaa.X
open Go.RowKit Go.Proofs.YtofaindjbhmopaaW.PrintWords Go.Proofs.YtofaindjbhmopaaW.PrintLast Go.Proofs.YtofaindjbhmopaaW.PrintMore
attribute [local go_sem] max2_int min2_int max_two min_two max_three min_three max_four min_four
set_option linter.unusedVariables false
set_option linter.unusedSimpArgs false
set_option maxHeartbeats 8000000
set_option maxRecDepth 100000
def api_Drop_64.Fn (g : Nat) (lb : Array Value) (p : S39 → Bool) (l : List (S39)) (w : World) : Prop :=
 ∀ (W : World) (x : S39), x ∈ l → Below w.heap.size w W → Calls Try.prog g (#[.agg #[.int .i64 x.f0, .int .i64 x.f1]] ++ lb) W fun e w' => e = .returned (.bool (p x)) ∧ Below W.heap.size W w'
def api_Drop_64.idx (p : S39 → Bool) : List (S39) → Nat → Int
 | [], _ => -1
 | x :: l, i => if p x = true then (i : Int) else api_Drop_64.idx p l (i + 1)
theorem api_Drop_64.idx_miss {p : S39 → Bool} : ∀ {l : List (S39)} {i : Nat}, api_Drop_64.idx p l i = -1 ∨ (i : Int) ≤ api_Drop_64.idx p l i
 | [], _ => .inl rfl
 | x :: l, i => by
  unfold api_Drop_64.idx
  split
  ·
   exact .inr (Int.le_refl _)
  ·
   rcases api_Drop_64.idx_miss (p := p) (l := l) (i := i + 1) with h | h
   ·
    exact .inl h
   ·
    exact .inr (by omega)
theorem api_Drop_64.idx_any (p : S39 → Bool) : ∀ (l : List (S39)) (i : Nat), decide (0 ≤ api_Drop_64.idx p l i) = l.any p
 | [], _ => rfl
 | x :: l, i => by
  unfold api_Drop_64.idx
  by_cases h : p x = true
  ·
   rw [if_pos h, List.any_cons, h, Bool.true_or]
   exact decide_eq_true (by omega)
  ·
   rw [if_neg h, api_Drop_64.idx_any p l (i + 1), List.any_cons, Bool.eq_false_iff.2 h, Bool.false_or]
set_option maxHeartbeats 2000000 in
theorem api_Drop_64.calls (g : Nat) (lb : Array Value) (eg : ∀ args w, (callFunc g args).run Try.prog w = .ok (.enter g args) w) (p : S39 → Bool) (A0 : Option Addr) (c0 : Nat) (l0 : List (S39)) (w : World) (hr0 : Kd.C k39 w A0 l0.length l0) (hp : api_Drop_64.Fn g lb p l0 w) :
 Calls Try.prog 64 #[.slice A0 l0.length c0, .func (.func g) #[] lb] w fun e w' => e = .returned (.int .i64 (api_Drop_64.idx p l0 0)) ∧ Below w.heap.size w w' := by
 have hu39 := Try.underlying39
 have HR0 := Aside0.mk hr0
 have HP := Aside0.mk hp
 have HL := Aside0.mk hr0.2.1
 clear hr0 hp
 go_enter Try.func64, Try.ntmps64
 go_wp2
 go_loopg [5, 8] l0.length (fun gg _ v8 wr => ∃ x : Int, v8 = .int .i64 x ∧ Aside0 (0 ≤ x) ∧ Aside0 (x ≤ (l0.length : Int)) ∧ Aside0 ((l0.length : Int) - x ≤ gg) ∧ Aside0 (api_Drop_64.idx p l0 0 = api_Drop_64.idx p (l0.drop x.toNat) x.toNat) ∧ Aside0 (Below w.heap.size w wr))
 case atStart => exact ⟨0, rfl, ⟨by omega⟩, ⟨by omega⟩, ⟨by omega⟩, ⟨rfl⟩, ⟨Below.refl _ _⟩⟩
 case round =>
  obtain ⟨x, rfl, H0, H1, HG, HI, HB⟩ := hrel
  by_cases hlt : x < (l0.length : Int)
  ·
   have p101 : 0 ≤ x := H0.out
   obtain ⟨ad101, e101, hx101_0, hx101_1⟩ := at_T39 HR0.out x p101 hlt
   cases e101
   have hy101_0 := kc HB hx101_0
   clear hx101_0
   have hy101_1 := kc HB hx101_1
   clear hx101_1
   have HN : Aside0 (x.toNat < l0.length) := ⟨by omega⟩
   have hget : rd_T39 l0 x = l0[x.toNat]'HN.out := by
    show l0.getD x.toNat _ = _
    rw [List.getD_eq_getElem?_getD, List.getElem?_eq_getElem HN.out, Option.getD_some]
   have hcall := HP.out wr (rd_T39 l0 x) (by rw [hget]; exact List.getElem_mem HN.out) HB.out
   have HGE := Aside0.mk hget
   clear hget
   have c1b0 : decide (x < (l0.length : Int)) = true := decide_eq_true hlt
   have pi101 : (0 ≤ (x : Int)) = True := eq_true p101
   have qi101 : (x < (l0.length : Int)) = True := eq_true hlt
   have HLT := Aside0.mk hlt
   clear hlt p101
   cases hq : p (rd_T39 l0 x) with
   | true =>
    rw [hq] at hcall
    have HQ := Aside0.mk hq
    clear hq
    go_wp2_with (go_at_fn g; refine hcall.mono ?_; rintro e w' ⟨rfl, hb'⟩)
    go_ret
    refine ⟨?_, HB.out.trans (hb'.mono HB.out.size)⟩
    rw [HI.out, List.drop_eq_getElem_cons HN.out]
    unfold api_Drop_64.idx
    rw [if_pos (by rw [← HGE.out]; exact HQ.out), Int.toNat_of_nonneg H0.out]
    rfl
   | false =>
    rw [hq] at hcall
    have HQ := Aside0.mk hq
    clear hq
    go_wp2_with (go_at_fn g; refine hcall.mono ?_; rintro e w' ⟨rfl, hb'⟩)
    have hw : wrap64 (x + 1) = x + 1 := by have := HLT.out; have := HL.out; have := H0.out; unfold wrap64; omega
    (try rw [hw])
    clear hw
    go_roundg (l0.length - (x.toNat + 1))
    case measure => have := HLT.out; have := HG.out; have := H0.out; omega
    case rel =>
     refine ⟨x + 1, by first | rfl | (have := HLT.out; have := HL.out; have := H0.out; simp; unfold wrap64; omega), ⟨by have := H0.out; omega⟩, ⟨by have := HLT.out; omega⟩, ⟨by have := HLT.out; have := H0.out; omega⟩, ⟨?_⟩, ⟨HB.out.trans (hb'.mono HB.out.size)⟩⟩
     rw [HI.out, List.drop_eq_getElem_cons HN.out, show (x + 1).toNat = x.toNat + 1 from by have := H0.out; omega]
     conv => lhs; unfold api_Drop_64.idx
     rw [if_neg (by rw [← HGE.out, HQ.out]; simp)]
  ·
   have hx : x = (l0.length : Int) := by have := H1.out; omega
   have c1b0 : decide (x < (l0.length : Int)) = false := decide_eq_false hlt
   clear hlt
   have HX := Aside0.mk hx
   clear hx
   go_wp2
   go_ret
   refine ⟨?_, HB.out⟩
   rw [HI.out, HX.out, Int.toNat_natCast, List.drop_of_length_le (Nat.le_refl _)]
   rfl
set_option maxHeartbeats 2000000 in
theorem api_Drop_54.calls (g : Nat) (lb : Array Value) (eg : ∀ args w, (callFunc g args).run Try.prog w = .ok (.enter g args) w) (p : S39 → Bool) (A0 : Option Addr) (c0 : Nat) (l0 : List (S39)) (w : World) (hr0 : Kd.C k39 w A0 l0.length l0) (hp : api_Drop_64.Fn g lb p l0 w) :
 Calls Try.prog 54 #[.slice A0 l0.length c0, .func (.func g) #[] lb] w fun e w' => e = .returned (.bool (l0.any p)) ∧ Below w.heap.size w w' := by
 have hcall := fun W => api_Drop_64.calls g lb eg p A0 c0 l0 W
 rw [← api_Drop_64.idx_any p l0 0]
 generalize api_Drop_64.idx p l0 0 = r at hcall ⊢
 go_enter Try.func54, Try.ntmps54
 go_wp2_with (go_at_call 64; refine (hcall _ hr0 hp).mono ?_; rintro e w' ⟨rfl, hb'⟩)
 go_ret
 exact ⟨rfl, hb'⟩
theorem shard_dropped.clo (B C : Nat) (W : World) (x : S39) (v u : Int) (h0 : W.cell? ⟨B, 0, none⟩ = some (.int .i64 v)) (h1 : W.cell? ⟨C, 0, none⟩ = some (.int .i64 u)) :
 Calls Try.prog 55 (#[.agg #[.int .i64 x.f0, .int .i64 x.f1]] ++ #[.pointer (some ⟨B, 0, none⟩), .pointer (some ⟨C, 0, none⟩)]) W fun e w' => e = .returned (.bool (x.f0 == v && decide (x.f1 ≤ u))) ∧ Below W.heap.size W w' := by
 have hB : B < W.heap.size := World.block_lt_of_cell? W _ h0
 have hC : C < W.heap.size := World.block_lt_of_cell? W _ h1
 have hne : B ≠ W.heap.size := by omega
 have hne2 : C ≠ W.heap.size := by omega
 have hu := Try.underlying39
 by_cases c : x.f0 = v
 ·
  have c1 : (x.f0 == v) = true := beq_iff_eq.mpr c
  clear c
  go_enter Try.func55, Try.ntmps55
  go_wp2
  go_ret
  exact ⟨by rw [c1]; first | rfl | simp, (Below.refl _ _).alloc (Nat.le_refl _) _⟩
 ·
  have c1 : (x.f0 == v) = false := beq_eq_false_iff_ne.mpr c
  clear c
  go_enter Try.func55, Try.ntmps55
  go_wp2
  go_ret
  exact ⟨by rw [c1]; first | rfl | simp, (Below.refl _ _).alloc (Nat.le_refl _) _⟩
theorem shard_dropped.zz {w W : World} {o2 : Obj} {cs : Array Value} {t : TypeId} (hW : Below ((w.alloc (.cells cs t)).alloc o2).heap.size ((w.alloc (.cells cs t)).alloc o2) W) (j : Nat) {v : Value} (hv : cs[j]? = some v) : W.cell? ⟨w.heap.size, j, none⟩ = some v := by
 have h0 : (w.alloc (.cells cs t)).heap[w.heap.size]? = some (.cells cs t) := by
  show (w.heap.push (.cells cs t))[w.heap.size]? = _
  exact Array.getElem?_push_size
 have h1 : ((w.alloc (.cells cs t)).alloc o2).heap[w.heap.size]? = some (.cells cs t) := blk_alloc h0 o2
 have h2 := (blk_cell h1 j).trans hv
 exact (hW.cell (World.block_lt_of_cell? _ _ h2)).trans h2
theorem shard_dropped.zb {w W : World} {o : Obj} {cs : Array Value} {t : TypeId} (hW : Below ((w.alloc o).alloc (.cells cs t)).heap.size ((w.alloc o).alloc (.cells cs t)) W) (j : Nat) {v : Value} (hv : cs[j]? = some v) : W.cell? ⟨w.heap.size + 1, j, none⟩ = some v := by
 have e : (w.alloc o).heap.size = w.heap.size + 1 := Array.size_push _
 have h1 : ((w.alloc o).alloc (.cells cs t)).heap[(w.alloc o).heap.size]? = some (.cells cs t) := by
  show ((w.alloc o).heap.push (.cells cs t))[(w.alloc o).heap.size]? = _
  exact Array.getElem?_push_size
 rw [e] at h1
 have h2 := (blk_cell h1 j).trans hv
 exact (hW.cell (World.block_lt_of_cell? _ _ h2)).trans h2
def shard_dropped.f (l0 : List (S39)) (a1 : Int) (a2 : Int) : Option (Bool) := some (l0.any fun x => x.f0 == a1 && decide (x.f1 ≤ a2))
theorem shard_dropped.calls (A0 : Option Addr) (c0 : Nat) (l0 : List (S39)) (a1 : Int) (a2 : Int) (r : Bool) (w : World) (hr0 : Kd.C k39 w A0 l0.length l0) (hc0 : l0.length ≤ c0) (h : shard_dropped.f l0 a1 a2 = some r) :
 Calls Try.prog 35 #[.slice A0 l0.length c0, .int .i64 a1, .int .i64 a2] w fun e w' => e = .returned (.bool r) ∧ Below w.heap.size w w' := by
 obtain rfl := Option.some.inj h
 have eg : ∀ args w, (callFunc 55 args).run Try.prog w = .ok (.enter 55 args) w := enters_of Try.func55 (by kernel_rfl) rfl
 have HR0 := Aside0.mk hr0
 clear hr0 hc0 h
 go_enter Try.func35, Try.ntmps35
 go_wp2_with fail
 refine (api_Drop_54.calls 55 #[.pointer (some ⟨w.heap.size, 0, none⟩), .pointer (some ⟨w.heap.size + 1, 0, none⟩)] eg (fun x => x.f0 == a1 && decide (x.f1 ≤ a2)) _ _ l0 _ ?t1 ?t2).mono ?_
 case t1 => exact Kd.C_alloc (Kd.C_alloc HR0.out _) _
 case t2 => exact (fun W x _ hW => shard_dropped.clo w.heap.size (w.heap.size + 1) W x a1 a2 (shard_dropped.zz hW 0 rfl) (shard_dropped.zb hW 0 rfl))
 rintro e w2 ⟨rfl, hb2⟩
 go_wp2
 go_ret
 exact ⟨rfl, (below_alloc (below_alloc (Below.refl _ _) _) _).trans (hb2.mono (below_alloc (below_alloc (Below.refl w.heap.size w) _) _).size)⟩
def chain_newest.l0 : Nat → List (S82) → Int → Int → Option (Int)
 | 0, _, _, _ => none
 | k + 1, x0, x1, x5 => if x5 ≥ 0 then (if 0 ≤ x5 then (if x5 < (x0.length : Int) then (if ((rd_T82 x0 x5).f0) ≤ x1 then (some x5) else (chain_newest.l0 k x0 x1 (wrap64 (x5 - 1)))) else (none)) else (none)) else (some (-1))
def chain_newest.f (k : Nat) (l0 : List (S82)) (a1 : Int) : Option (Int) := chain_newest.l0 k l0 a1 (wrap64 ((l0.length : Int) - 1))
theorem chain_newest.mono_l : ∀ k, (∀ y0 y1 y2, LeC (chain_newest.l0 k y0 y1 y2) (chain_newest.l0 (k + 1) y0 y1 y2))
 | 0 => fun _ _ _ => ⟨fun r h => by simp [chain_newest.l0] at h⟩
 | k + 1 => by have ih0 := chain_newest.mono_l k; exact fun _ _ _ => by unfold chain_newest.l0; exact lm
theorem chain_newest.mono : ∀ a0 a1 k, LeO (chain_newest.f k a0 a1) (chain_newest.f (k + 1) a0 a1) := by
 intro a0 a1 k
 have ih0 := chain_newest.mono_l k
 unfold chain_newest.f
 exact lo
instance chain_newest.mI {a0 a1 k} : LeC (chain_newest.f k a0 a1) (chain_newest.f (k + 1) a0 a1) := ⟨chain_newest.mono _ _ _⟩
theorem chain_newest.calls (k : Nat) (A0 : Option Addr) (c0 : Nat) (l0 : List (S82)) (a1 : Int) (r : Int) (w : World) (hr0 : Kd.C k82 w A0 l0.length l0) (hc0 : l0.length ≤ c0) (h : chain_newest.f k l0 a1 = some r) :
 Calls Try.prog 56 #[.slice A0 l0.length c0, .int .i64 a1] w fun e w' => e = .returned (.int .i64 r) ∧ Drawn0 w w' := by
 have HR0 := Aside0.mk hr0
 have HC0 := Aside0.mk hc0
 clear hr0 hc0
 have H : (chain_newest.l0 k l0 a1 (wrap64 ((l0.length : Int) - 1))) = some r := h
 clear h
 have H' := Aside0.mk H
 clear H
 go_enter Try.func56, Try.ntmps56
 go_wp2
 go_loopg [5] k (fun kq v5 w' => ∃ (x5_1 : Int), v5 = .int .i64 x5_1 ∧ Aside0 (chain_newest.l0 kq l0 a1 x5_1 = some r) ∧ Aside0 (kq ≤ k) ∧ Drawn0 w w')
 case atStart => exact ⟨(wrap64 ((l0.length : Int) - 1)), rs_, H', ⟨Nat.le_refl _⟩, dr_⟩
 case round =>
  clear H'
  try clear p2
  obtain ⟨x5_1, rfl, HA, HK1, ⟨m1, rfl⟩⟩ := hrel
  cases gk with
  | zero => exact absurd HA.out (by simp [chain_newest.l0])
  | succ k1 =>
   have H := HA.out
   clear HA
   simp only [chain_newest.l0] at H
   by_cases c3 : x5_1 ≥ 0
   ·
    rw [if_pos c3] at H
    have c3b0 : decide (0 ≤ x5_1) = true := decide_eq_true c3
    clear c3
    obtain ⟨c4b0, H⟩ := gdd H
    obtain ⟨c5b0, H⟩ := gdd H
    by_cases c6 : ((rd_T82 l0 x5_1).f0) ≤ a1
    ·
     rw [if_pos c6] at H
     have c6b0 : decide (((rd_T82 l0 x5_1).f0) ≤ a1) = true := decide_eq_true c6
     clear c6
     obtain rfl := Option.some.inj H
     have p229 : 0 ≤ (x5_1 : Int) := od
     have q229 : x5_1 < (l0.length : Int) := od
     obtain ⟨ad229, e229, hx229_0, hx229_1, hx229_2, hx229_3, hx229_4, hx229_5⟩ := at_T82 HR0.out x5_1 p229 q229
     cases e229
     replace p229 := eq_true p229
     replace q229 := eq_true q229
     go_wp2
     go_ret
     exact ⟨rs_, dr_⟩
    ·
     rw [if_neg c6] at H
     have c6b0 : decide (((rd_T82 l0 x5_1).f0) ≤ a1) = false := decide_eq_false c6
     clear c6
     have H' := Aside0.mk H
     clear H
     have p229 : 0 ≤ (x5_1 : Int) := od
     have q229 : x5_1 < (l0.length : Int) := od
     obtain ⟨ad229, e229, hx229_0, hx229_1, hx229_2, hx229_3, hx229_4, hx229_5⟩ := at_T82 HR0.out x5_1 p229 q229
     cases e229
     replace p229 := eq_true p229
     replace q229 := eq_true q229
     go_wp2
     go_roundg k1
     case measure => have := HK1.out; omega
     case rel => exact ⟨(wrap64 (x5_1 - 1)), rs_, H', ⟨by have := HK1.out; omega⟩, dr_⟩
   ·
    rw [if_neg c3] at H
    have c3b0 : decide (0 ≤ x5_1) = false := decide_eq_false c3
    clear c3
    obtain rfl := Option.some.inj H
    go_wp2
    go_ret
    exact ⟨rs_, dr_⟩
def chain_At.f (k : Nat) (l0 : List (S82)) (a1 : Int) : Option (Int × Int × Bool × Int × Int) := (chain_newest.f k l0 a1).bind fun t231 => (if t231 ≥ 0 then (if 0 ≤ t231 then (if t231 < (l0.length : Int) then (some ((rd_T82 l0 t231).f1.f0, (rd_T82 l0 t231).f1.f1.f0, (rd_T82 l0 t231).f1.f1.f1, (rd_T82 l0 t231).f1.f2, (rd_T82 l0 t231).f1.f3)) else (none)) else (none)) else (some (0, 0, false, 0, 0)))
theorem chain_At.mono : ∀ a0 a1 k, LeO (chain_At.f k a0 a1) (chain_At.f (k + 1) a0 a1) := by
 intro a0 a1 k
 unfold chain_At.f
 exact lo
instance chain_At.mI {a0 a1 k} : LeC (chain_At.f k a0 a1) (chain_At.f (k + 1) a0 a1) := ⟨chain_At.mono _ _ _⟩
theorem chain_At.calls (k : Nat) (A0 : Option Addr) (c0 : Nat) (l0 : List (S82)) (a1 : Int) (r1 : Int) (r2 : Int) (r3 : Bool) (r4 : Int) (r5 : Int) (w : World) (hr0 : Kd.C k82 w A0 l0.length l0) (hc0 : l0.length ≤ c0) (h : chain_At.f k l0 a1 = some (r1, r2, r3, r4, r5)) :
 Calls Try.prog 36 #[.slice A0 l0.length c0, .int .i64 a1] w fun e w' => e = .returned (.agg #[.int .i64 r1, .int .i64 r2, .bool r3, .int .i64 r4, .int .i64 r5]) ∧ Below w.heap.size w w' := by
 have hu52 := Try.underlying52
 have HR0 := Aside0.mk hr0
 have HC0 := Aside0.mk hc0
 clear hr0 hc0
 have HB := Aside0.mk (Below.refl w.heap.size w)
 have H : ((chain_newest.f k l0 a1).bind fun t231 => (if t231 ≥ 0 then (if 0 ≤ t231 then (if t231 < (l0.length : Int) then (some ((rd_T82 l0 t231).f1.f0, (rd_T82 l0 t231).f1.f1.f0, (rd_T82 l0 t231).f1.f1.f1, (rd_T82 l0 t231).f1.f2, (rd_T82 l0 t231).f1.f3)) else (none)) else (none)) else (some (0, 0, false, 0, 0)))) = some (r1, r2, r3, r4, r5) := h
 clear h
 obtain ⟨t231, A3, H⟩ := bs H
 try dsimp only at H
 by_cases c4 : t231 ≥ 0
 ·
  rw [if_pos c4] at H
  have c4b0 : decide (0 ≤ t231) = true := decide_eq_true c4
  clear c4
  obtain ⟨c5b0, H⟩ := gdd H
  obtain ⟨c6b0, H⟩ := gdd H
  simp only [Option.some.injEq, Prod.mk.injEq] at H
  obtain ⟨rfl, rfl, rfl, rfl, rfl⟩ := H
  go_enter Try.func36, Try.ntmps36
  go_wp2_with (first | ((with_reducible refine gate_dst (N := 4) rfl ?_); refine bx (N := 4) #[.int .i64 0, .int .i64 0, .bool false, .int .i64 0, .int .i64 0] 52 ?_; intro gb230 hg w7 hbox hb; have BK230 := Aside0.mk (hbox); have GW230 := gw hg (uW HB.out); have GE230 := GW230; replace HB := cW HB hb; clear hb hbox hg) | (refine gL (some 8) rfl Try.func56 #[.slice A0 l0.length c0, .int .i64 a1] ?_; (with_reducible refine (chain_newest.calls k _ _ l0 a1 t231 _ ?side1 ?side2 A3.out).mono ?_); (case side1 => exact uC <| (Kd.C_below HR0.out HB.out)); (case side2 => exact HC0.out); rintro e w' ⟨rfl, ⟨nd, rfl⟩⟩; refine ⟨_, rfl, ?_⟩; (try (rw [drewN_self w7]; generalize hq_ : World.drewN w7 _ = w7; have n0_ : Aside0 (w7.heap[gb230]? = some (.cells #[.int .i64 0, .int .i64 0, .bool false, .int .i64 0, .int .i64 0] 52 (0, 0))) := ⟨by rw [← hq_]; exact (uB BK230.out)⟩; have n1_ : Aside0 (Below w.heap.size w w7) := ⟨by rw [← hq_]; exact bl⟩; clear BK230 HB hq_; have BK230 := n0_; have HB := n1_; clear n0_ n1_)); have p232 : 0 ≤ (t231 : Int) := od; have q232 : t231 < (l0.length : Int) := od; obtain ⟨ad232, e232, hx232_0, hx232_1, hx232_2, hx232_3, hx232_4, hx232_5⟩ := at_T82 HR0.out t231 p232 q232; cases e232; replace hx232_0 := kc HB hx232_0; replace hx232_1 := kc HB hx232_1; replace hx232_2 := kc HB hx232_2; replace hx232_3 := kc HB hx232_3; replace hx232_4 := kc HB hx232_4; replace hx232_5 := kc HB hx232_5; replace p232 := eq_true p232; replace q232 := eq_true q232; obtain ⟨hcz8_0, hcz8_1, hcz8_2, hcz8_3, hcz8_4, hfz8_0, hfz8_1, hfz8_2, hfz8_3, hfz8_4⟩ := z5 BK230) | ((with_reducible refine gate_store (t := 52) (p := 4) rfl ?_); refine store_event (t := 52) (p := 4) (v := ?vo_w9) (w1 := (((((w7.setCell ⟨gb230, 0, none⟩ (.int .i64 ((rd_T82 l0 t231).f1.f0))).setCell ⟨gb230, 1, none⟩ (.int .i64 ((rd_T82 l0 t231).f1.f1.f0))).setCell ⟨gb230, 2, none⟩ (.bool ((rd_T82 l0 t231).f1.f1.f1))).setCell ⟨gb230, 3, none⟩ (.int .i64 ((rd_T82 l0 t231).f1.f2))).setCell ⟨gb230, 4, none⟩ (.int .i64 ((rd_T82 l0 t231).f1.f3)))) ?hg ?ho ?hn ?hr ?_; (case ho => rfl); (case hg => rfl); (case hn => rfl); (case hr => first | (go_simp; done) | (go_simp; rfl)); intro w9 hw; have n0_ : Aside0 (w9.heap[gb230]? = some (.cells #[.int .i64 ((rd_T82 l0 t231).f1.f0), .int .i64 ((rd_T82 l0 t231).f1.f1.f0), .bool ((rd_T82 l0 t231).f1.f1.f1), .int .i64 ((rd_T82 l0 t231).f1.f2), .int .i64 ((rd_T82 l0 t231).f1.f3)] 52 (0, 0))) := ⟨(by rw [hw]; exact (by (with_reducible repeat (first | refine blk_drewN ?_ _ | refine blk_drew ?_ | refine blk_alloc ?_ _)); refine blk_put (cs := #[.int .i64 ((rd_T82 l0 t231).f1.f0), .int .i64 ((rd_T82 l0 t231).f1.f1.f0), .bool ((rd_T82 l0 t231).f1.f1.f1), .int .i64 ((rd_T82 l0 t231).f1.f2), .int .i64 0]) ?_ 4 _ rfl; (with_reducible repeat (first | refine blk_drewN ?_ _ | refine blk_drew ?_ | refine blk_alloc ?_ _)); refine blk_put (cs := #[.int .i64 ((rd_T82 l0 t231).f1.f0), .int .i64 ((rd_T82 l0 t231).f1.f1.f0), .bool ((rd_T82 l0 t231).f1.f1.f1), .int .i64 0, .int .i64 0]) ?_ 3 _ rfl; (with_reducible repeat (first | refine blk_drewN ?_ _ | refine blk_drew ?_ | refine blk_alloc ?_ _)); refine blk_put (cs := #[.int .i64 ((rd_T82 l0 t231).f1.f0), .int .i64 ((rd_T82 l0 t231).f1.f1.f0), .bool false, .int .i64 0, .int .i64 0]) ?_ 2 _ rfl; (with_reducible repeat (first | refine blk_drewN ?_ _ | refine blk_drew ?_ | refine blk_alloc ?_ _)); refine blk_put (cs := #[.int .i64 ((rd_T82 l0 t231).f1.f0), .int .i64 0, .bool false, .int .i64 0, .int .i64 0]) ?_ 1 _ rfl; (with_reducible repeat (first | refine blk_drewN ?_ _ | refine blk_drew ?_ | refine blk_alloc ?_ _)); refine blk_put (cs := #[.int .i64 0, .int .i64 0, .bool false, .int .i64 0, .int .i64 0]) ?_ 0 _ rfl; exact uB <| BK230.out))⟩; have n1_ : Aside0 (Below w.heap.size w w9) := ⟨(by rw [hw]; exact bl)⟩; clear hw; clear BK230; clear HB; have BK230 := n0_; have HB := n1_; clear n0_ n1_))
  refine bodyPost_ret (results_cell_row rfl _ _ gb230 52 #[.int .i64 ((rd_T82 l0 t231).f1.f0), .int .i64 ((rd_T82 l0 t231).f1.f1.f0), .bool ((rd_T82 l0 t231).f1.f1.f1), .int .i64 ((rd_T82 l0 t231).f1.f2), .int .i64 ((rd_T82 l0 t231).f1.f3)] (0, 0) _ rfl (uB BK230.out) Try.underlying52 rfl (by kernel_rfl)) rfl ?_
  exact ⟨re_, bl⟩
 ·
  rw [if_neg c4] at H
  have c4b0 : decide (0 ≤ t231) = false := decide_eq_false c4
  clear c4
  simp only [Option.some.injEq, Prod.mk.injEq] at H
  obtain ⟨rfl, rfl, rfl, rfl, rfl⟩ := H
  go_enter Try.func36, Try.ntmps36
  go_wp2_with (first | ((with_reducible refine gate_dst (N := 4) rfl ?_); refine bx (N := 4) #[.int .i64 0, .int .i64 0, .bool false, .int .i64 0, .int .i64 0] 52 ?_; intro gb230 hg w10 hbox hb; have BK230 := Aside0.mk (hbox); have GW230 := gw hg (uW HB.out); have GE230 := GW230; replace HB := cW HB hb; clear hb hbox hg) | (refine gL (some 8) rfl Try.func56 #[.slice A0 l0.length c0, .int .i64 a1] ?_; (with_reducible refine (chain_newest.calls k _ _ l0 a1 t231 _ ?side1 ?side2 A3.out).mono ?_); (case side1 => exact uC <| (Kd.C_below HR0.out HB.out)); (case side2 => exact HC0.out); rintro e w' ⟨rfl, ⟨nd, rfl⟩⟩; refine ⟨_, rfl, ?_⟩; (try (rw [drewN_self w10]; generalize hq_ : World.drewN w10 _ = w10; have n0_ : Aside0 (w10.heap[gb230]? = some (.cells #[.int .i64 0, .int .i64 0, .bool false, .int .i64 0, .int .i64 0] 52 (0, 0))) := ⟨by rw [← hq_]; exact (uB BK230.out)⟩; have n1_ : Aside0 (Below w.heap.size w w10) := ⟨by rw [← hq_]; exact bl⟩; clear BK230 HB hq_; have BK230 := n0_; have HB := n1_; clear n0_ n1_)); obtain ⟨hcz11_0, hcz11_1, hcz11_2, hcz11_3, hcz11_4, hfz11_0, hfz11_1, hfz11_2, hfz11_3, hfz11_4⟩ := z5 BK230) | ((with_reducible refine gate_store (t := 52) (p := 4) rfl ?_); refine store_event (t := 52) (p := 4) (v := ?vo_w12) (w1 := (((((w10.setCell ⟨gb230, 0, none⟩ (.int .i64 0)).setCell ⟨gb230, 1, none⟩ (.int .i64 0)).setCell ⟨gb230, 2, none⟩ (.bool false)).setCell ⟨gb230, 3, none⟩ (.int .i64 0)).setCell ⟨gb230, 4, none⟩ (.int .i64 0))) ?hg ?ho ?hn ?hr ?_; (case ho => rfl); (case hg => rfl); (case hn => rfl); (case hr => first | (go_simp; done) | (go_simp; rfl)); intro w12 hw; have n0_ : Aside0 (w12.heap[gb230]? = some (.cells #[.int .i64 0, .int .i64 0, .bool false, .int .i64 0, .int .i64 0] 52 (0, 0))) := ⟨(by rw [hw]; exact (by (with_reducible repeat (first | refine blk_drewN ?_ _ | refine blk_drew ?_ | refine blk_alloc ?_ _)); refine blk_put (cs := #[.int .i64 0, .int .i64 0, .bool false, .int .i64 0, .int .i64 0]) ?_ 4 _ rfl; (with_reducible repeat (first | refine blk_drewN ?_ _ | refine blk_drew ?_ | refine blk_alloc ?_ _)); refine blk_put (cs := #[.int .i64 0, .int .i64 0, .bool false, .int .i64 0, .int .i64 0]) ?_ 3 _ rfl; (with_reducible repeat (first | refine blk_drewN ?_ _ | refine blk_drew ?_ | refine blk_alloc ?_ _)); refine blk_put (cs := #[.int .i64 0, .int .i64 0, .bool false, .int .i64 0, .int .i64 0]) ?_ 2 _ rfl; (with_reducible repeat (first | refine blk_drewN ?_ _ | refine blk_drew ?_ | refine blk_alloc ?_ _)); refine blk_put (cs := #[.int .i64 0, .int .i64 0, .bool false, .int .i64 0, .int .i64 0]) ?_ 1 _ rfl; (with_reducible repeat (first | refine blk_drewN ?_ _ | refine blk_drew ?_ | refine blk_alloc ?_ _)); refine blk_put (cs := #[.int .i64 0, .int .i64 0, .bool false, .int .i64 0, .int .i64 0]) ?_ 0 _ rfl; exact uB <| BK230.out))⟩; have n1_ : Aside0 (Below w.heap.size w w12) := ⟨(by rw [hw]; exact bl)⟩; clear hw; clear BK230; clear HB; have BK230 := n0_; have HB := n1_; clear n0_ n1_))
  refine bodyPost_ret (results_cell_row rfl _ _ gb230 52 #[.int .i64 0, .int .i64 0, .bool false, .int .i64 0, .int .i64 0] (0, 0) _ rfl (uB BK230.out) Try.underlying52 rfl (by kernel_rfl)) rfl ?_
  exact ⟨re_, bl⟩
def shard_Read.l0 : Nat → Int → List (S39) → List (S54) → List (S59) → Int → Int → Option ((List (S54)))
 | 0, _, _, _, _, _, _ => none
 | k + 1, x1, x2, x6, x11, x12, x13 => if x13 < x12 then (if 0 ≤ x13 then (if x13 < (x11.length : Int) then ((shard_dropped.f x2 ((rd_T59 x11 x13).f0) x1).bind fun t236 => (if t236 = true then (shard_Read.l0 k x1 x2 x6 x11 x12 (wrap64 (x13 + 1))) else ((chain_At.f k ((rd_T59 x11 x13).f2) x1).bind fun bt237 => ((cell_Empty.f bt237.1 bt237.2.1 bt237.2.2.1 bt237.2.2.2.1 bt237.2.2.2.2).bind fun t243 => (if t243 = true then (shard_Read.l0 k x1 x2 x6 x11 x12 (wrap64 (x13 + 1))) else (if x6.length < 2199023255552 then (shard_Read.l0 k x1 x2 (x6 ++ [(⟨(rd_T59 x11 x13).f0, (rd_T59 x11 x13).f1, (⟨bt237.1, (⟨bt237.2.1, bt237.2.2.1⟩ : S50), bt237.2.2.2.1, bt237.2.2.2.2⟩ : S52)⟩ : S54)]) x11 x12 (wrap64 (x13 + 1))) else (none))))))) else (none)) else (none)) else (some x6)
def shard_Read.f (k : Nat) (l0_0 : List (S59)) (a1 : Int) (l2 : List (S39)) : Option ((List (S54))) := shard_Read.l0 k a1 l2 ([] : List (S54)) l0_0 (l0_0.length : Int) 0
theorem shard_Read.mono_l : ∀ k, (∀ y0 y1 y2 y3 y4 y5, LeC (shard_Read.l0 k y0 y1 y2 y3 y4 y5) (shard_Read.l0 (k + 1) y0 y1 y2 y3 y4 y5))
 | 0 => fun _ _ _ _ _ _ => ⟨fun r h => by simp [shard_Read.l0] at h⟩
 | k + 1 => by have ih0 := shard_Read.mono_l k; exact fun _ _ _ _ _ _ => by unfold shard_Read.l0; exact lm
theorem shard_Read.mono : ∀ a0 a1 a2 k, LeO (shard_Read.f k a0 a1 a2) (shard_Read.f (k + 1) a0 a1 a2) := by
 intro a0 a1 a2 k
 have ih0 := shard_Read.mono_l k
 unfold shard_Read.f
 exact lo
instance shard_Read.mI {a0 a1 a2 k} : LeC (shard_Read.f k a0 a1 a2) (shard_Read.f (k + 1) a0 a1 a2) := ⟨shard_Read.mono _ _ _ _⟩
theorem shard_Read.calls (k : Nat) (A0_0 : Option Addr) (c0_0 : Nat) (l0_0 : List (S59)) (a1 : Int) (A2 : Option Addr) (c2 : Nat) (l2 : List (S39)) (r : List (S54)) (w : World) (hr0_0 : Kd.C k59 w A0_0 l0_0.length l0_0) (hc0_0 : l0_0.length ≤ c0_0) (hr2 : Kd.C k39 w A2 l2.length l2) (hc2 : l2.length ≤ c2) (h : shard_Read.f k l0_0 a1 l2 = some r) :
 Calls Try.prog 16 #[.agg #[.slice A0_0 l0_0.length c0_0], .int .i64 a1, .slice A2 l2.length c2] w fun e w' => ∃ v0_ : Value, e = .returned (v0_) ∧ Kd.R k54 54 w' w.heap.size (fun _ => True) v0_ r ∧ Below w.heap.size w w' := by
 have hu24 := Try.underlying24
 have hu59 := Try.underlying59
 have hu52 := Try.underlying52
 have hu54 := Try.underlying54
 have HR0_0 := Aside0.mk hr0_0
 have HC0_0 := Aside0.mk hc0_0
 clear hr0_0 hc0_0
 have HR2 := Aside0.mk hr2
 have HC2 := Aside0.mk hc2
 clear hr2 hc2
 have HB := Aside0.mk (Below.refl w.heap.size w)
 have H : (shard_Read.l0 k a1 l2 ([] : List (S54)) l0_0 (l0_0.length : Int) 0) = some r := h
 clear h
 have H' := Aside0.mk H
 clear H
 go_enter Try.func16, Try.ntmps16
 go_wp2_with (first | ((with_reducible refine gate_dst (N := 3) rfl ?_); refine bx (N := 3) #[.slice A0_0 l0_0.length c0_0] 24 ?_; intro gb233 hg w4 hbox hb; have BK233 := Aside0.mk (hbox); have GW233 := gw hg (uW HB.out); have GE233 := GW233; replace HB := cW HB hb; clear hb hbox hg; obtain ⟨hcz5_0, hfz5_0⟩ := z1 BK233))
 go_loopg [6, 13] k (fun kq v6 v13 w' => ∃ (x6_1 : List (S54)) (x13_1 : Int), v13 = .int .i64 x13_1 ∧ Aside0 (shard_Read.l0 kq a1 l2 x6_1 l0_0 (l0_0.length : Int) x13_1 = some r) ∧ Aside0 (kq ≤ k) ∧ Aside0 (Kd.R k54 54 w' w.heap.size (fun _ => True) v6 x6_1) ∧ Aside0 (w'.heap[gb233]? = some (.cells #[(.slice A0_0 l0_0.length c0_0)] 24 (0, 0))) ∧ Aside0 (Below w.heap.size w w'))
 case atStart => exact ⟨(([] : List (S54))), (0), rs_, H', ⟨Nat.le_refl _⟩, ⟨nl_⟩, ⟨uB BK233.out⟩, ⟨bl⟩⟩
 case round =>
  clear H'
  try clear c1
  try clear c2
  try clear p2
  try clear hcz5_0
  try clear hfz5_0
  obtain ⟨x6_1, x13_1, rfl, HA, HK1, HO_6, BK233, HB⟩ := hrel
  cases gk with
  | zero => exact absurd HA.out (by simp [shard_Read.l0])
  | succ k1 =>
   have H := HA.out
   clear HA
   simp only [shard_Read.l0] at H
   by_cases c6 : x13_1 < (l0_0.length : Int)
   ·
    rw [if_pos c6] at H
    have c6b0 : decide (x13_1 < (l0_0.length : Int)) = true := decide_eq_true c6
    clear c6
    obtain ⟨c7b0, H⟩ := gdd H
    obtain ⟨c8b0, H⟩ := gdd H
    obtain ⟨t236, A9, H⟩ := bs H
    try dsimp only at H
    by_cases c10 : t236 = true
    ·
     subst c10
     rw [if_pos rfl] at H
     have H' := Aside0.mk H
     clear H
     have p234 : 0 ≤ (x13_1 : Int) := od
     have q234 : x13_1 < (l0_0.length : Int) := od
     obtain ⟨ad234, A234_2, c234_2, e234, hx234_0, hx234_1, hx234_2, hl234_2, hi234_2⟩ := at_T59 HR0_0.out x13_1 p234 q234
     cases e234
     replace hx234_0 := kc HB hx234_0
     replace hx234_1 := kc HB hx234_1
     replace hx234_2 := kc HB hx234_2
     have HR234_2 := Aside0.mk hi234_2
     have HC234_2 := Aside0.mk hl234_2
     clear hi234_2 hl234_2
     replace p234 := eq_true p234
     replace q234 := eq_true q234
     go_wp2_with (first | ((with_reducible refine gate_dst (N := 8) rfl ?_); refine bx (N := 8) #[.int .i64 0, .string (⟨#[]⟩ : ByteArray), .slice none 0 0] 59 ?_; intro gb235 hg w11 hbox hb; replace HO_6 := cR HO_6 hb; have BK235 := Aside0.mk (hbox); have GW235 := gw hg bl; have GE235 := GW235; replace HB := Aside0.mk (below_step bl hb); have NB233_235 := Aside0.mk ((by rw [hg]; exact Nat.ne_of_lt (blk_lt (g := gb233) (o := .cells #[.slice (some ad234) l0_0.length c0_0] 24 (0, 0)) (uB BK233.out)) : gb233 ≠ gb235)); have NB235_233 := Aside0.mk ((by rw [hg]; exact Nat.ne_of_gt (blk_lt (g := gb233) (o := .cells #[.slice (some ad234) l0_0.length c0_0] 24 (0, 0)) (uB BK233.out)) : gb235 ≠ gb233)); replace BK233 := cB BK233 hb; clear hb hbox hg; have hnb12 := NB235_233.out; have hnc12 := NB233_235.out; obtain ⟨hcz13_0, hcz13_1, hcz13_2, hfz13_0, hfz13_1, hfz13_2⟩ := z3 BK235) | (refine gL (some 21) rfl Try.func35 #[.slice A2 l2.length c2, .int .i64 ((rd_T59 l0_0 x13_1).f0), .int .i64 a1] ?_; (with_reducible refine (shard_dropped.calls _ _ l2 ((rd_T59 l0_0 x13_1).f0) a1 true _ ?side1 ?side2 A9.out).mono ?_); (case side1 => exact Kd.C_below HR2.out bl); (case side2 => exact HC2.out); rintro e w14 ⟨rfl, hb⟩; refine ⟨_, rfl, ?_⟩; replace HO_6 := Aside0.mk (Kd.R_below (by exact uR <| (Kd.R_mono (Kd.R_far (p := ⟨gb235, 2, none⟩) (Kd.R_far (p := ⟨gb235, 1, none⟩) (Kd.R_far (p := ⟨gb235, 0, none⟩) (Kd.R_types HO_6.out BK235.out (by decide)) (fun _ hk => hk.2) (.int .i64 ((rd_T59 l0_0 x13_1).f0))) (fun _ hk => hk.2) (.string ((rd_T59 l0_0 x13_1).f1))) (fun _ hk => hk.2) (.slice A234_2 ((rd_T59 l0_0 x13_1).f2).length c234_2)) (fun _ h_ => h_.1))) hb); replace BK233 := Aside0.mk (blk_below (g := gb233) (o := .cells #[.slice (some ad234) l0_0.length c0_0] 24 (0, 0)) (by (with_reducible repeat (first | refine blk_drewN ?_ _ | refine blk_drew ?_ | refine blk_alloc ?_ _)); refine blk_far ?_ NB233_235.out _; (with_reducible repeat (first | refine blk_drewN ?_ _ | refine blk_drew ?_ | refine blk_alloc ?_ _)); refine blk_far ?_ NB233_235.out _; (with_reducible repeat (first | refine blk_drewN ?_ _ | refine blk_drew ?_ | refine blk_alloc ?_ _)); refine blk_far ?_ NB233_235.out _; exact uB <| BK233.out) hb); replace BK235 := Aside0.mk (blk_below (g := gb235) (o := .cells #[.int .i64 ((rd_T59 l0_0 x13_1).f0), .string ((rd_T59 l0_0 x13_1).f1), .slice A234_2 ((rd_T59 l0_0 x13_1).f2).length c234_2] 59 (0, 0)) (by (with_reducible repeat (first | refine blk_drewN ?_ _ | refine blk_drew ?_ | refine blk_alloc ?_ _)); refine blk_put (cs := #[.int .i64 ((rd_T59 l0_0 x13_1).f0), .string ((rd_T59 l0_0 x13_1).f1), .slice none 0 0]) ?_ 2 _ rfl; (with_reducible repeat (first | refine blk_drewN ?_ _ | refine blk_drew ?_ | refine blk_alloc ?_ _)); refine blk_put (cs := #[.int .i64 ((rd_T59 l0_0 x13_1).f0), .string (⟨#[]⟩ : ByteArray), .slice none 0 0]) ?_ 1 _ rfl; (with_reducible repeat (first | refine blk_drewN ?_ _ | refine blk_drew ?_ | refine blk_alloc ?_ _)); refine blk_put (cs := #[.int .i64 0, .string (⟨#[]⟩ : ByteArray), .slice none 0 0]) ?_ 0 _ rfl; exact uB <| BK235.out) hb); replace HB := Aside0.mk (below_step bl hb); (try clear hb)))
     go_roundg k1
     case measure => have := HK1.out; omega
     case rel => exact ⟨(x6_1), (wrap64 (x13_1 + 1)), rs_, H', ⟨by have := HK1.out; omega⟩, ⟨uR HO_6.out⟩, ⟨uB BK233.out⟩, ⟨bl⟩⟩
    ·
     replace c10 := Bool.eq_false_iff.mpr c10
     subst c10
     rw [if_neg (show ¬ (false = true) by decide)] at H
     obtain ⟨⟨t237, t238, t239, t240, t241⟩, A15, H⟩ := bs H
     try dsimp only at H
     obtain ⟨t243, A16, H⟩ := bs H
     try dsimp only at H
     by_cases c17 : t243 = true
     ·
      subst c17
      rw [if_pos rfl] at H
      have H' := Aside0.mk H
      clear H
      have p234 : 0 ≤ (x13_1 : Int) := od
      have q234 : x13_1 < (l0_0.length : Int) := od
      obtain ⟨ad234, A234_2, c234_2, e234, hx234_0, hx234_1, hx234_2, hl234_2, hi234_2⟩ := at_T59 HR0_0.out x13_1 p234 q234
      cases e234
      replace hx234_0 := kc HB hx234_0
      replace hx234_1 := kc HB hx234_1
      replace hx234_2 := kc HB hx234_2
      have HR234_2 := Aside0.mk hi234_2
      have HC234_2 := Aside0.mk hl234_2
      clear hi234_2 hl234_2
      replace p234 := eq_true p234
      replace q234 := eq_true q234
      go_wp2_with (first | ((with_reducible refine gate_dst (N := 8) rfl ?_); refine bx (N := 8) #[.int .i64 0, .string (⟨#[]⟩ : ByteArray), .slice none 0 0] 59 ?_; intro gb235 hg w18 hbox hb; replace HO_6 := cR HO_6 hb; have BK235 := Aside0.mk (hbox); have GW235 := gw hg bl; have GE235 := GW235; replace HB := Aside0.mk (below_step bl hb); have NB233_235 := Aside0.mk ((by rw [hg]; exact Nat.ne_of_lt (blk_lt (g := gb233) (o := .cells #[.slice (some ad234) l0_0.length c0_0] 24 (0, 0)) (uB BK233.out)) : gb233 ≠ gb235)); have NB235_233 := Aside0.mk ((by rw [hg]; exact Nat.ne_of_gt (blk_lt (g := gb233) (o := .cells #[.slice (some ad234) l0_0.length c0_0] 24 (0, 0)) (uB BK233.out)) : gb235 ≠ gb233)); replace BK233 := cB BK233 hb; clear hb hbox hg; have hnb19 := NB235_233.out; have hnc19 := NB233_235.out; obtain ⟨hcz20_0, hcz20_1, hcz20_2, hfz20_0, hfz20_1, hfz20_2⟩ := z3 BK235) | (refine gL (some 21) rfl Try.func35 #[.slice A2 l2.length c2, .int .i64 ((rd_T59 l0_0 x13_1).f0), .int .i64 a1] ?_; (with_reducible refine (shard_dropped.calls _ _ l2 ((rd_T59 l0_0 x13_1).f0) a1 false _ ?side1 ?side2 A9.out).mono ?_); (case side1 => exact Kd.C_below HR2.out bl); (case side2 => exact HC2.out); rintro e w21 ⟨rfl, hb⟩; refine ⟨_, rfl, ?_⟩; replace HO_6 := Aside0.mk (Kd.R_below (by exact uR <| (Kd.R_mono (Kd.R_far (p := ⟨gb235, 2, none⟩) (Kd.R_far (p := ⟨gb235, 1, none⟩) (Kd.R_far (p := ⟨gb235, 0, none⟩) (Kd.R_types HO_6.out BK235.out (by decide)) (fun _ hk => hk.2) (.int .i64 ((rd_T59 l0_0 x13_1).f0))) (fun _ hk => hk.2) (.string ((rd_T59 l0_0 x13_1).f1))) (fun _ hk => hk.2) (.slice A234_2 ((rd_T59 l0_0 x13_1).f2).length c234_2)) (fun _ h_ => h_.1))) hb); replace BK233 := Aside0.mk (blk_below (g := gb233) (o := .cells #[.slice (some ad234) l0_0.length c0_0] 24 (0, 0)) (by (with_reducible repeat (first | refine blk_drewN ?_ _ | refine blk_drew ?_ | refine blk_alloc ?_ _)); refine blk_far ?_ NB233_235.out _; (with_reducible repeat (first | refine blk_drewN ?_ _ | refine blk_drew ?_ | refine blk_alloc ?_ _)); refine blk_far ?_ NB233_235.out _; (with_reducible repeat (first | refine blk_drewN ?_ _ | refine blk_drew ?_ | refine blk_alloc ?_ _)); refine blk_far ?_ NB233_235.out _; exact uB <| BK233.out) hb); replace BK235 := Aside0.mk (blk_below (g := gb235) (o := .cells #[.int .i64 ((rd_T59 l0_0 x13_1).f0), .string ((rd_T59 l0_0 x13_1).f1), .slice A234_2 ((rd_T59 l0_0 x13_1).f2).length c234_2] 59 (0, 0)) (by (with_reducible repeat (first | refine blk_drewN ?_ _ | refine blk_drew ?_ | refine blk_alloc ?_ _)); refine blk_put (cs := #[.int .i64 ((rd_T59 l0_0 x13_1).f0), .string ((rd_T59 l0_0 x13_1).f1), .slice none 0 0]) ?_ 2 _ rfl; (with_reducible repeat (first | refine blk_drewN ?_ _ | refine blk_drew ?_ | refine blk_alloc ?_ _)); refine blk_put (cs := #[.int .i64 ((rd_T59 l0_0 x13_1).f0), .string (⟨#[]⟩ : ByteArray), .slice none 0 0]) ?_ 1 _ rfl; (with_reducible repeat (first | refine blk_drewN ?_ _ | refine blk_drew ?_ | refine blk_alloc ?_ _)); refine blk_put (cs := #[.int .i64 0, .string (⟨#[]⟩ : ByteArray), .slice none 0 0]) ?_ 0 _ rfl; exact uB <| BK235.out) hb); replace HB := Aside0.mk (below_step bl hb); (try clear hb); obtain ⟨hcz22_0, hcz22_1, hcz22_2, hfz22_0, hfz22_1, hfz22_2⟩ := z3 BK235) | (refine gL (some 25) rfl Try.func36 #[.slice A234_2 ((rd_T59 l0_0 x13_1).f2).length c234_2, .int .i64 a1] ?_; (with_reducible refine (chain_At.calls k1 _ _ ((rd_T59 l0_0 x13_1).f2) a1 t237 t238 t239 t240 t241 _ ?side1 ?side2 A15.out).mono ?_); (case side1 => exact uC <| (Kd.C_below HR234_2.out HB.out)); (case side2 => exact HC234_2.out); rintro e w23 ⟨rfl, hb⟩; refine ⟨_, rfl, ?_⟩; replace HO_6 := cR HO_6 hb; replace BK233 := cB BK233 hb; replace BK235 := cB BK235 hb; replace HB := Aside0.mk (below_step bl hb); (try clear hb)) | ((with_reducible refine gate_dst (N := 9) rfl ?_); refine bx (N := 9) #[.int .i64 0, .int .i64 0, .bool false, .int .i64 0, .int .i64 0] 52 ?_; intro gb242 hg w24 hbox hb; replace HO_6 := cR HO_6 hb; have BK242 := Aside0.mk (hbox); have GW242 := gw hg bl; have GE242 := GW242; replace HB := Aside0.mk (below_step bl hb); have NB233_242 := Aside0.mk ((by rw [hg]; exact Nat.ne_of_lt (blk_lt (g := gb233) (o := .cells #[.slice (some ad234) l0_0.length c0_0] 24 (0, 0)) (uB BK233.out)) : gb233 ≠ gb242)); have NB242_233 := Aside0.mk ((by rw [hg]; exact Nat.ne_of_gt (blk_lt (g := gb233) (o := .cells #[.slice (some ad234) l0_0.length c0_0] 24 (0, 0)) (uB BK233.out)) : gb242 ≠ gb233)); replace BK233 := cB BK233 hb; have NB235_242 := Aside0.mk ((by rw [hg]; exact Nat.ne_of_lt (blk_lt (g := gb235) (o := .cells #[.int .i64 ((rd_T59 l0_0 x13_1).f0), .string ((rd_T59 l0_0 x13_1).f1), .slice A234_2 ((rd_T59 l0_0 x13_1).f2).length c234_2] 59 (0, 0)) (uB BK235.out)) : gb235 ≠ gb242)); have NB242_235 := Aside0.mk ((by rw [hg]; exact Nat.ne_of_gt (blk_lt (g := gb235) (o := .cells #[.int .i64 ((rd_T59 l0_0 x13_1).f0), .string ((rd_T59 l0_0 x13_1).f1), .slice A234_2 ((rd_T59 l0_0 x13_1).f2).length c234_2] 59 (0, 0)) (uB BK235.out)) : gb242 ≠ gb235)); replace BK235 := cB BK235 hb; clear hb hbox hg; have hnb25 := NB242_233.out; have hnc25 := NB233_242.out; have hnb26 := NB242_235.out; have hnc26 := NB235_242.out; obtain ⟨hcz27_0, hcz27_1, hcz27_2, hcz27_3, hcz27_4, hfz27_0, hfz27_1, hfz27_2, hfz27_3, hfz27_4⟩ := z5 BK242) | ((with_reducible refine gate_store (t := 52) (p := 9) rfl ?_); refine store_event (t := 52) (p := 9) (v := ?vo_w28) (w1 := (((((w24.setCell ⟨gb242, 0, none⟩ (.int .i64 t237)).setCell ⟨gb242, 1, none⟩ (.int .i64 t238)).setCell ⟨gb242, 2, none⟩ (.bool t239)).setCell ⟨gb242, 3, none⟩ (.int .i64 t240)).setCell ⟨gb242, 4, none⟩ (.int .i64 t241))) ?hg ?ho ?hn ?hr ?_; (case ho => rfl); (case hg => rfl); (case hn => rfl); (case hr => first | (go_simp; done) | (go_simp; rfl)); intro w28 hw; have n0_ : Aside0 (Kd.R k54 54 w28 w.heap.size (fun _ => True) u6 x6_1) := ⟨(by rw [hw]; exact (by exact uR <| Kd.R_mono (Kd.R_far (p := ⟨gb242, 4, none⟩) (Kd.R_far (p := ⟨gb242, 3, none⟩) (Kd.R_far (p := ⟨gb242, 2, none⟩) (Kd.R_far (p := ⟨gb242, 1, none⟩) (Kd.R_far (p := ⟨gb242, 0, none⟩) (Kd.R_types HO_6.out BK242.out (by decide)) (fun _ hk => hk.2) (.int .i64 t237)) (fun _ hk => hk.2) (.int .i64 t238)) (fun _ hk => hk.2) (.bool t239)) (fun _ hk => hk.2) (.int .i64 t240)) (fun _ hk => hk.2) (.int .i64 t241)) (fun _ hk => trivial)))⟩; have n1_ : Aside0 (w28.heap[gb233]? = some (.cells #[.slice (some ad234) l0_0.length c0_0] 24 (0, 0))) := ⟨(by rw [hw]; exact (by (with_reducible repeat (first | refine blk_drewN ?_ _ | refine blk_drew ?_ | refine blk_alloc ?_ _)); refine blk_far ?_ NB233_242.out _; (with_reducible repeat (first | refine blk_drewN ?_ _ | refine blk_drew ?_ | refine blk_alloc ?_ _)); refine blk_far ?_ NB233_242.out _; (with_reducible repeat (first | refine blk_drewN ?_ _ | refine blk_drew ?_ | refine blk_alloc ?_ _)); refine blk_far ?_ NB233_242.out _; (with_reducible repeat (first | refine blk_drewN ?_ _ | refine blk_drew ?_ | refine blk_alloc ?_ _)); refine blk_far ?_ NB233_242.out _; (with_reducible repeat (first | refine blk_drewN ?_ _ | refine blk_drew ?_ | refine blk_alloc ?_ _)); refine blk_far ?_ NB233_242.out _; exact uB <| BK233.out))⟩; have n2_ : Aside0 (w28.heap[gb235]? = some (.cells #[.int .i64 ((rd_T59 l0_0 x13_1).f0), .string ((rd_T59 l0_0 x13_1).f1), .slice A234_2 ((rd_T59 l0_0 x13_1).f2).length c234_2] 59 (0, 0))) := ⟨(by rw [hw]; exact (by (with_reducible repeat (first | refine blk_drewN ?_ _ | refine blk_drew ?_ | refine blk_alloc ?_ _)); refine blk_far ?_ NB235_242.out _; (with_reducible repeat (first | refine blk_drewN ?_ _ | refine blk_drew ?_ | refine blk_alloc ?_ _)); refine blk_far ?_ NB235_242.out _; (with_reducible repeat (first | refine blk_drewN ?_ _ | refine blk_drew ?_ | refine blk_alloc ?_ _)); refine blk_far ?_ NB235_242.out _; (with_reducible repeat (first | refine blk_drewN ?_ _ | refine blk_drew ?_ | refine blk_alloc ?_ _)); refine blk_far ?_ NB235_242.out _; (with_reducible repeat (first | refine blk_drewN ?_ _ | refine blk_drew ?_ | refine blk_alloc ?_ _)); refine blk_far ?_ NB235_242.out _; exact uB <| BK235.out))⟩; have n3_ : Aside0 (w28.heap[gb242]? = some (.cells #[.int .i64 t237, .int .i64 t238, .bool t239, .int .i64 t240, .int .i64 t241] 52 (0, 0))) := ⟨(by rw [hw]; exact (by (with_reducible repeat (first | refine blk_drewN ?_ _ | refine blk_drew ?_ | refine blk_alloc ?_ _)); refine blk_put (cs := #[.int .i64 t237, .int .i64 t238, .bool t239, .int .i64 t240, .int .i64 0]) ?_ 4 _ rfl; (with_reducible repeat (first | refine blk_drewN ?_ _ | refine blk_drew ?_ | refine blk_alloc ?_ _)); refine blk_put (cs := #[.int .i64 t237, .int .i64 t238, .bool t239, .int .i64 0, .int .i64 0]) ?_ 3 _ rfl; (with_reducible repeat (first | refine blk_drewN ?_ _ | refine blk_drew ?_ | refine blk_alloc ?_ _)); refine blk_put (cs := #[.int .i64 t237, .int .i64 t238, .bool false, .int .i64 0, .int .i64 0]) ?_ 2 _ rfl; (with_reducible repeat (first | refine blk_drewN ?_ _ | refine blk_drew ?_ | refine blk_alloc ?_ _)); refine blk_put (cs := #[.int .i64 t237, .int .i64 0, .bool false, .int .i64 0, .int .i64 0]) ?_ 1 _ rfl; (with_reducible repeat (first | refine blk_drewN ?_ _ | refine blk_drew ?_ | refine blk_alloc ?_ _)); refine blk_put (cs := #[.int .i64 0, .int .i64 0, .bool false, .int .i64 0, .int .i64 0]) ?_ 0 _ rfl; exact uB <| BK242.out))⟩; have n4_ : Aside0 (Below w.heap.size w w28) := ⟨(by rw [hw]; exact bl)⟩; clear hw; clear HO_6; clear BK233; clear BK235; clear BK242; clear HB; have HO_6 := n0_; have BK233 := n1_; have BK235 := n2_; have BK242 := n3_; have HB := n4_; clear n0_ n1_ n2_ n3_ n4_; obtain ⟨hcz29_0, hcz29_1, hcz29_2, hcz29_3, hcz29_4, hfz29_0, hfz29_1, hfz29_2, hfz29_3, hfz29_4⟩ := z5 BK242) | (refine gL (some 27) rfl Try.func37 #[.agg #[.int .i64 t237, .int .i64 t238, .bool t239, .int .i64 t240, .int .i64 t241]] ?_; (with_reducible refine (cell_Empty.calls t237 t238 t239 t240 t241 true _ A16.out).mono ?_); rintro e w30 ⟨rfl, hb⟩; refine ⟨_, rfl, ?_⟩; replace HO_6 := cR HO_6 hb; replace BK233 := cB BK233 hb; replace BK235 := cB BK235 hb; replace BK242 := cB BK242 hb; replace HB := Aside0.mk (below_step bl hb); (try clear hb)))
      go_roundg k1
      case measure => have := HK1.out; omega
      case rel => exact ⟨(x6_1), (wrap64 (x13_1 + 1)), rs_, H', ⟨by have := HK1.out; omega⟩, ⟨uR HO_6.out⟩, ⟨uB BK233.out⟩, ⟨bl⟩⟩
     ·
      replace c17 := Bool.eq_false_iff.mpr c17
      subst c17
      rw [if_neg (show ¬ (false = true) by decide)] at H
      obtain ⟨c31, H⟩ := gd H
      have LMc31 := Aside0.mk c31
      clear c31
      obtain ⟨y244, hy244⟩ : ∃ y_ : List (S54), y_ = (x6_1 ++ [(⟨(rd_T59 l0_0 x13_1).f0, (rd_T59 l0_0 x13_1).f1, (⟨t237, (⟨t238, t239⟩ : S50), t240, t241⟩ : S52)⟩ : S54)]) := ⟨_, rfl⟩
      replace H : (shard_Read.l0 k1 a1 l2 y244 l0_0 (l0_0.length : Int) (wrap64 (x13_1 + 1))) = some r := by first | (rw [hy244]; with_reducible exact H) | (have H2_ := (Option.bind_some _ _).symm.trans H; rw [hy244]; with_reducible exact H2_) | (have H2_ := (Option.bind_some _ _).symm.trans H; with_reducible exact H2_) | with_reducible exact H | (rw [hy244]; exact H) | exact H
      have Ny244 := Aside0.mk hy244
      clear hy244
      have H' := Aside0.mk H
      clear H
      have p234 : 0 ≤ (x13_1 : Int) := od
      have q234 : x13_1 < (l0_0.length : Int) := od
      obtain ⟨ad234, A234_2, c234_2, e234, hx234_0, hx234_1, hx234_2, hl234_2, hi234_2⟩ := at_T59 HR0_0.out x13_1 p234 q234
      cases e234
      replace hx234_0 := kc HB hx234_0
      replace hx234_1 := kc HB hx234_1
      replace hx234_2 := kc HB hx234_2
      have HR234_2 := Aside0.mk hi234_2
      have HC234_2 := Aside0.mk hl234_2
      clear hi234_2 hl234_2
      replace p234 := eq_true p234
      replace q234 := eq_true q234
      go_wp2_with (first | ((with_reducible refine gate_dst (N := 8) rfl ?_); refine bx (N := 8) #[.int .i64 0, .string (⟨#[]⟩ : ByteArray), .slice none 0 0] 59 ?_; intro gb235 hg w32 hbox hb; replace HO_6 := cR HO_6 hb; have BK235 := Aside0.mk (hbox); have GW235 := gw hg bl; have GE235 := GW235; replace HB := Aside0.mk (below_step bl hb); have NB233_235 := Aside0.mk ((by rw [hg]; exact Nat.ne_of_lt (blk_lt (g := gb233) (o := .cells #[.slice (some ad234) l0_0.length c0_0] 24 (0, 0)) (uB BK233.out)) : gb233 ≠ gb235)); have NB235_233 := Aside0.mk ((by rw [hg]; exact Nat.ne_of_gt (blk_lt (g := gb233) (o := .cells #[.slice (some ad234) l0_0.length c0_0] 24 (0, 0)) (uB BK233.out)) : gb235 ≠ gb233)); replace BK233 := cB BK233 hb; clear hb hbox hg; have hnb33 := NB235_233.out; have hnc33 := NB233_235.out; obtain ⟨hcz34_0, hcz34_1, hcz34_2, hfz34_0, hfz34_1, hfz34_2⟩ := z3 BK235) | (refine gL (some 21) rfl Try.func35 #[.slice A2 l2.length c2, .int .i64 ((rd_T59 l0_0 x13_1).f0), .int .i64 a1] ?_; (with_reducible refine (shard_dropped.calls _ _ l2 ((rd_T59 l0_0 x13_1).f0) a1 false _ ?side1 ?side2 A9.out).mono ?_); (case side1 => exact Kd.C_below HR2.out bl); (case side2 => exact HC2.out); rintro e w35 ⟨rfl, hb⟩; refine ⟨_, rfl, ?_⟩; replace HO_6 := Aside0.mk (Kd.R_below (by exact uR <| (Kd.R_mono (Kd.R_far (p := ⟨gb235, 2, none⟩) (Kd.R_far (p := ⟨gb235, 1, none⟩) (Kd.R_far (p := ⟨gb235, 0, none⟩) (Kd.R_types HO_6.out BK235.out (by decide)) (fun _ hk => hk.2) (.int .i64 ((rd_T59 l0_0 x13_1).f0))) (fun _ hk => hk.2) (.string ((rd_T59 l0_0 x13_1).f1))) (fun _ hk => hk.2) (.slice A234_2 ((rd_T59 l0_0 x13_1).f2).length c234_2)) (fun _ h_ => h_.1))) hb); replace BK233 := Aside0.mk (blk_below (g := gb233) (o := .cells #[.slice (some ad234) l0_0.length c0_0] 24 (0, 0)) (by (with_reducible repeat (first | refine blk_drewN ?_ _ | refine blk_drew ?_ | refine blk_alloc ?_ _)); refine blk_far ?_ NB233_235.out _; (with_reducible repeat (first | refine blk_drewN ?_ _ | refine blk_drew ?_ | refine blk_alloc ?_ _)); refine blk_far ?_ NB233_235.out _; (with_reducible repeat (first | refine blk_drewN ?_ _ | refine blk_drew ?_ | refine blk_alloc ?_ _)); refine blk_far ?_ NB233_235.out _; exact uB <| BK233.out) hb); replace BK235 := Aside0.mk (blk_below (g := gb235) (o := .cells #[.int .i64 ((rd_T59 l0_0 x13_1).f0), .string ((rd_T59 l0_0 x13_1).f1), .slice A234_2 ((rd_T59 l0_0 x13_1).f2).length c234_2] 59 (0, 0)) (by (with_reducible repeat (first | refine blk_drewN ?_ _ | refine blk_drew ?_ | refine blk_alloc ?_ _)); refine blk_put (cs := #[.int .i64 ((rd_T59 l0_0 x13_1).f0), .string ((rd_T59 l0_0 x13_1).f1), .slice none 0 0]) ?_ 2 _ rfl; (with_reducible repeat (first | refine blk_drewN ?_ _ | refine blk_drew ?_ | refine blk_alloc ?_ _)); refine blk_put (cs := #[.int .i64 ((rd_T59 l0_0 x13_1).f0), .string (⟨#[]⟩ : ByteArray), .slice none 0 0]) ?_ 1 _ rfl; (with_reducible repeat (first | refine blk_drewN ?_ _ | refine blk_drew ?_ | refine blk_alloc ?_ _)); refine blk_put (cs := #[.int .i64 0, .string (⟨#[]⟩ : ByteArray), .slice none 0 0]) ?_ 0 _ rfl; exact uB <| BK235.out) hb); replace HB := Aside0.mk (below_step bl hb); (try clear hb); obtain ⟨hcz36_0, hcz36_1, hcz36_2, hfz36_0, hfz36_1, hfz36_2⟩ := z3 BK235) | (refine gL (some 25) rfl Try.func36 #[.slice A234_2 ((rd_T59 l0_0 x13_1).f2).length c234_2, .int .i64 a1] ?_; (with_reducible refine (chain_At.calls k1 _ _ ((rd_T59 l0_0 x13_1).f2) a1 t237 t238 t239 t240 t241 _ ?side1 ?side2 A15.out).mono ?_); (case side1 => exact uC <| (Kd.C_below HR234_2.out HB.out)); (case side2 => exact HC234_2.out); rintro e w37 ⟨rfl, hb⟩; refine ⟨_, rfl, ?_⟩; replace HO_6 := cR HO_6 hb; replace BK233 := cB BK233 hb; replace BK235 := cB BK235 hb; replace HB := Aside0.mk (below_step bl hb); (try clear hb)) | ((with_reducible refine gate_dst (N := 9) rfl ?_); refine bx (N := 9) #[.int .i64 0, .int .i64 0, .bool false, .int .i64 0, .int .i64 0] 52 ?_; intro gb242 hg w38 hbox hb; replace HO_6 := cR HO_6 hb; have BK242 := Aside0.mk (hbox); have GW242 := gw hg bl; have GE242 := GW242; replace HB := Aside0.mk (below_step bl hb); have NB233_242 := Aside0.mk ((by rw [hg]; exact Nat.ne_of_lt (blk_lt (g := gb233) (o := .cells #[.slice (some ad234) l0_0.length c0_0] 24 (0, 0)) (uB BK233.out)) : gb233 ≠ gb242)); have NB242_233 := Aside0.mk ((by rw [hg]; exact Nat.ne_of_gt (blk_lt (g := gb233) (o := .cells #[.slice (some ad234) l0_0.length c0_0] 24 (0, 0)) (uB BK233.out)) : gb242 ≠ gb233)); replace BK233 := cB BK233 hb; have NB235_242 := Aside0.mk ((by rw [hg]; exact Nat.ne_of_lt (blk_lt (g := gb235) (o := .cells #[.int .i64 ((rd_T59 l0_0 x13_1).f0), .string ((rd_T59 l0_0 x13_1).f1), .slice A234_2 ((rd_T59 l0_0 x13_1).f2).length c234_2] 59 (0, 0)) (uB BK235.out)) : gb235 ≠ gb242)); have NB242_235 := Aside0.mk ((by rw [hg]; exact Nat.ne_of_gt (blk_lt (g := gb235) (o := .cells #[.int .i64 ((rd_T59 l0_0 x13_1).f0), .string ((rd_T59 l0_0 x13_1).f1), .slice A234_2 ((rd_T59 l0_0 x13_1).f2).length c234_2] 59 (0, 0)) (uB BK235.out)) : gb242 ≠ gb235)); replace BK235 := cB BK235 hb; clear hb hbox hg; have hnb39 := NB242_233.out; have hnc39 := NB233_242.out; have hnb40 := NB242_235.out; have hnc40 := NB235_242.out; obtain ⟨hcz41_0, hcz41_1, hcz41_2, hcz41_3, hcz41_4, hfz41_0, hfz41_1, hfz41_2, hfz41_3, hfz41_4⟩ := z5 BK242) | ((with_reducible refine gate_store (t := 52) (p := 9) rfl ?_); refine store_event (t := 52) (p := 9) (v := ?vo_w42) (w1 := (((((w38.setCell ⟨gb242, 0, none⟩ (.int .i64 t237)).setCell ⟨gb242, 1, none⟩ (.int .i64 t238)).setCell ⟨gb242, 2, none⟩ (.bool t239)).setCell ⟨gb242, 3, none⟩ (.int .i64 t240)).setCell ⟨gb242, 4, none⟩ (.int .i64 t241))) ?hg ?ho ?hn ?hr ?_; (case ho => rfl); (case hg => rfl); (case hn => rfl); (case hr => first | (go_simp; done) | (go_simp; rfl)); intro w42 hw; have n0_ : Aside0 (Kd.R k54 54 w42 w.heap.size (fun _ => True) u6 x6_1) := ⟨(by rw [hw]; exact (by exact uR <| Kd.R_mono (Kd.R_far (p := ⟨gb242, 4, none⟩) (Kd.R_far (p := ⟨gb242, 3, none⟩) (Kd.R_far (p := ⟨gb242, 2, none⟩) (Kd.R_far (p := ⟨gb242, 1, none⟩) (Kd.R_far (p := ⟨gb242, 0, none⟩) (Kd.R_types HO_6.out BK242.out (by decide)) (fun _ hk => hk.2) (.int .i64 t237)) (fun _ hk => hk.2) (.int .i64 t238)) (fun _ hk => hk.2) (.bool t239)) (fun _ hk => hk.2) (.int .i64 t240)) (fun _ hk => hk.2) (.int .i64 t241)) (fun _ hk => trivial)))⟩; have n1_ : Aside0 (w42.heap[gb233]? = some (.cells #[.slice (some ad234) l0_0.length c0_0] 24 (0, 0))) := ⟨(by rw [hw]; exact (by (with_reducible repeat (first | refine blk_drewN ?_ _ | refine blk_drew ?_ | refine blk_alloc ?_ _)); refine blk_far ?_ NB233_242.out _; (with_reducible repeat (first | refine blk_drewN ?_ _ | refine blk_drew ?_ | refine blk_alloc ?_ _)); refine blk_far ?_ NB233_242.out _; (with_reducible repeat (first | refine blk_drewN ?_ _ | refine blk_drew ?_ | refine blk_alloc ?_ _)); refine blk_far ?_ NB233_242.out _; (with_reducible repeat (first | refine blk_drewN ?_ _ | refine blk_drew ?_ | refine blk_alloc ?_ _)); refine blk_far ?_ NB233_242.out _; (with_reducible repeat (first | refine blk_drewN ?_ _ | refine blk_drew ?_ | refine blk_alloc ?_ _)); refine blk_far ?_ NB233_242.out _; exact uB <| BK233.out))⟩; have n2_ : Aside0 (w42.heap[gb235]? = some (.cells #[.int .i64 ((rd_T59 l0_0 x13_1).f0), .string ((rd_T59 l0_0 x13_1).f1), .slice A234_2 ((rd_T59 l0_0 x13_1).f2).length c234_2] 59 (0, 0))) := ⟨(by rw [hw]; exact (by (with_reducible repeat (first | refine blk_drewN ?_ _ | refine blk_drew ?_ | refine blk_alloc ?_ _)); refine blk_far ?_ NB235_242.out _; (with_reducible repeat (first | refine blk_drewN ?_ _ | refine blk_drew ?_ | refine blk_alloc ?_ _)); refine blk_far ?_ NB235_242.out _; (with_reducible repeat (first | refine blk_drewN ?_ _ | refine blk_drew ?_ | refine blk_alloc ?_ _)); refine blk_far ?_ NB235_242.out _; (with_reducible repeat (first | refine blk_drewN ?_ _ | refine blk_drew ?_ | refine blk_alloc ?_ _)); refine blk_far ?_ NB235_242.out _; (with_reducible repeat (first | refine blk_drewN ?_ _ | refine blk_drew ?_ | refine blk_alloc ?_ _)); refine blk_far ?_ NB235_242.out _; exact uB <| BK235.out))⟩; have n3_ : Aside0 (w42.heap[gb242]? = some (.cells #[.int .i64 t237, .int .i64 t238, .bool t239, .int .i64 t240, .int .i64 t241] 52 (0, 0))) := ⟨(by rw [hw]; exact (by (with_reducible repeat (first | refine blk_drewN ?_ _ | refine blk_drew ?_ | refine blk_alloc ?_ _)); refine blk_put (cs := #[.int .i64 t237, .int .i64 t238, .bool t239, .int .i64 t240, .int .i64 0]) ?_ 4 _ rfl; (with_reducible repeat (first | refine blk_drewN ?_ _ | refine blk_drew ?_ | refine blk_alloc ?_ _)); refine blk_put (cs := #[.int .i64 t237, .int .i64 t238, .bool t239, .int .i64 0, .int .i64 0]) ?_ 3 _ rfl; (with_reducible repeat (first | refine blk_drewN ?_ _ | refine blk_drew ?_ | refine blk_alloc ?_ _)); refine blk_put (cs := #[.int .i64 t237, .int .i64 t238, .bool false, .int .i64 0, .int .i64 0]) ?_ 2 _ rfl; (with_reducible repeat (first | refine blk_drewN ?_ _ | refine blk_drew ?_ | refine blk_alloc ?_ _)); refine blk_put (cs := #[.int .i64 t237, .int .i64 0, .bool false, .int .i64 0, .int .i64 0]) ?_ 1 _ rfl; (with_reducible repeat (first | refine blk_drewN ?_ _ | refine blk_drew ?_ | refine blk_alloc ?_ _)); refine blk_put (cs := #[.int .i64 0, .int .i64 0, .bool false, .int .i64 0, .int .i64 0]) ?_ 0 _ rfl; exact uB <| BK242.out))⟩; have n4_ : Aside0 (Below w.heap.size w w42) := ⟨(by rw [hw]; exact bl)⟩; clear hw; clear HO_6; clear BK233; clear BK235; clear BK242; clear HB; have HO_6 := n0_; have BK233 := n1_; have BK235 := n2_; have BK242 := n3_; have HB := n4_; clear n0_ n1_ n2_ n3_ n4_; obtain ⟨hcz43_0, hcz43_1, hcz43_2, hcz43_3, hcz43_4, hfz43_0, hfz43_1, hfz43_2, hfz43_3, hfz43_4⟩ := z5 BK242) | (refine gL (some 27) rfl Try.func37 #[.agg #[.int .i64 t237, .int .i64 t238, .bool t239, .int .i64 t240, .int .i64 t241]] ?_; (with_reducible refine (cell_Empty.calls t237 t238 t239 t240 t241 false _ A16.out).mono ?_); rintro e w44 ⟨rfl, hb⟩; refine ⟨_, rfl, ?_⟩; replace HO_6 := cR HO_6 hb; replace BK233 := cB BK233 hb; replace BK235 := cB BK235 hb; replace BK242 := cB BK242 hb; replace HB := Aside0.mk (below_step bl hb); (try clear hb); obtain ⟨hcz45_0, hcz45_1, hcz45_2, hfz45_0, hfz45_1, hfz45_2⟩ := z3 BK235; obtain ⟨hcz46_0, hcz46_1, hcz46_2, hcz46_3, hcz46_4, hfz46_0, hfz46_1, hfz46_2, hfz46_3, hfz46_4⟩ := z5 BK242) | ((with_reducible refine gate_builtin (b := .append) (xs := #[.tmp 29, .tmp 36]) rfl ?_); at_builtin; refine Kd.R_append k54 (w0 := w) w.heap.size rfl (.tmp 29) (.tmp 36) 36 54 (.agg #[(.int .i64 0), (.string ⟨#[]⟩), (.int .i64 0), (.int .i64 0), (.bool false), (.int .i64 0), (.int .i64 0)]) 64 rfl Try.underlying36 info54 rfl (by decide) (by omega) u6 x6_1 (⟨(rd_T59 l0_0 x13_1).f0, (rd_T59 l0_0 x13_1).f1, (⟨t237, (⟨t238, t239⟩ : S50), t240, t241⟩ : S52)⟩ : S54) [.int .i64 ((rd_T59 l0_0 x13_1).f0), .string ((rd_T59 l0_0 x13_1).f1), .int .i64 t237, .int .i64 t238, .bool t239, .int .i64 t240, .int .i64 t241] (fun _ => True) (fun _ => False) rfl rfl ?aP (fun _ hk => hk.elim) ?aF ?aO ?aB ?aS ?aL ?_; (case aP => exact k54_mkM _ _ _ (⟨(rd_T59 l0_0 x13_1).f0, (rd_T59 l0_0 x13_1).f1, (⟨t237, (⟨t238, t239⟩ : S50), t240, t241⟩ : S52)⟩ : S54)); (case aB => exact bl); (case aF => exact (fun _ _ => trivial)); (case aO => exact (uR HO_6.out)); (case aS => exact (below_size bl)); (case aL => have := LMc31.out; omega); intro v245 w47 ho hb hg hat; rw [← Ny244.out] at ho; replace BK233 := Aside0.mk (blk_grown (g := gb233) (o := .cells #[.slice (some ad234) l0_0.length c0_0] 24 (0, 0)) (uB BK233.out) hg (Kd.R_ne HO_6.out BK233.out (by decide))); replace BK235 := Aside0.mk (blk_grown (g := gb235) (o := .cells #[.int .i64 ((rd_T59 l0_0 x13_1).f0), .string ((rd_T59 l0_0 x13_1).f1), .slice A234_2 ((rd_T59 l0_0 x13_1).f2).length c234_2] 59 (0, 0)) (uB BK235.out) hg (Kd.R_ne HO_6.out BK235.out (by decide))); replace BK242 := Aside0.mk (blk_grown (g := gb242) (o := .cells #[.int .i64 t237, .int .i64 t238, .bool t239, .int .i64 t240, .int .i64 t241] 52 (0, 0)) (uB BK242.out) hg (Kd.R_ne HO_6.out BK242.out (by decide))); replace HB := Aside0.mk (hb); have HO246 := Aside0.mk (ho); clear HO_6; clear ho hb hg hat))
      go_roundg k1
      case measure => have := HK1.out; omega
      case rel => exact ⟨(y244), (wrap64 (x13_1 + 1)), rs_, H', ⟨by have := HK1.out; omega⟩, ⟨uR HO246.out⟩, ⟨uB BK233.out⟩, ⟨bl⟩⟩
   ·
    rw [if_neg c6] at H
    have c6b0 : decide (x13_1 < (l0_0.length : Int)) = false := decide_eq_false c6
    clear c6
    obtain rfl := Option.some.inj H
    go_wp2
    go_ret
    exact ⟨_, re_, uR HO_6.out, bl⟩
theorem eqA82 (d : Nat) (w : World) (x0 y0 : Int) (x1 y1 : Int) (x2 y2 : Int) (x3 y3 : Bool) (x4 y4 : Int) (x5 y5 : Int) :
 (Op.equalIn (d + 4) 82 (.agg #[.int .i64 x0, .int .i64 x1, .int .i64 x2, .bool x3, .int .i64 x4, .int .i64 x5]) (.agg #[.int .i64 y0, .int .i64 y1, .int .i64 y2, .bool y3, .int .i64 y4, .int .i64 y5])).run Try.prog w = .ok (x0 == y0 && ((x1 == y1 && ((x2 == y2 && (x3 == y3)) && (x4 == y4 && (x5 == y5)))))) w := by
 refine eqA_of Try.underlying82 (by kernel_rfl) ?_
 refine eqf_cons (by rfl) (by go_simp; rfl) (by go_simp; rfl) (by go_simp) ?_
 exact eqf_last (by rfl) (by go_simp) (by go_simp) (eqA52 (d + 0) w _ _ _ _ _ _ _ _ _ _)
attribute [local go_sem high] eqA82
def shard_Size.l0 : Nat → Int → List (S59) → Int → Int → Option (Int)
 | 0, _, _, _, _ => none
 | k + 1, x2, x6, x7, x8 => if x8 < x7 then (if 0 ≤ x8 then (if x8 < (x6.length : Int) then (shard_Size.l0 k (wrap64 (x2 + (((rd_T59 x6 x8).f2).length : Int))) x6 x7 (wrap64 (x8 + 1))) else (none)) else (none)) else (some x2)
def shard_Size.f (k : Nat) (l0_0 : List (S59)) : Option (Int) := shard_Size.l0 k 0 l0_0 (l0_0.length : Int) 0
theorem shard_Size.mono_l : ∀ k, (∀ y0 y1 y2 y3, LeC (shard_Size.l0 k y0 y1 y2 y3) (shard_Size.l0 (k + 1) y0 y1 y2 y3))
 | 0 => fun _ _ _ _ => ⟨fun r h => by simp [shard_Size.l0] at h⟩
 | k + 1 => by have ih0 := shard_Size.mono_l k; exact fun _ _ _ _ => by unfold shard_Size.l0; exact lm
theorem shard_Size.mono : ∀ a0 k, LeO (shard_Size.f k a0) (shard_Size.f (k + 1) a0) := by
 intro a0 k
 have ih0 := shard_Size.mono_l k
 unfold shard_Size.f
 exact lo
instance shard_Size.mI {a0 k} : LeC (shard_Size.f k a0) (shard_Size.f (k + 1) a0) := ⟨shard_Size.mono _ _⟩
theorem shard_Size.calls (k : Nat) (A0_0 : Option Addr) (c0_0 : Nat) (l0_0 : List (S59)) (r : Int) (w : World) (hr0_0 : Kd.C k59 w A0_0 l0_0.length l0_0) (hc0_0 : l0_0.length ≤ c0_0) (h : shard_Size.f k l0_0 = some r) :
 Calls Try.prog 19 #[.agg #[.slice A0_0 l0_0.length c0_0]] w fun e w' => e = .returned (.int .i64 r) ∧ Below w.heap.size w w' := by
 have hu24 := Try.underlying24
 have hu59 := Try.underlying59
 have HR0_0 := Aside0.mk hr0_0
 have HC0_0 := Aside0.mk hc0_0
 clear hr0_0 hc0_0
 have HB := Aside0.mk (Below.refl w.heap.size w)
 have H : (shard_Size.l0 k 0 l0_0 (l0_0.length : Int) 0) = some r := h
 clear h
 have H' := Aside0.mk H
 clear H
 go_enter Try.func19, Try.ntmps19
 go_wp2_with (first | ((with_reducible refine gate_dst (N := 1) rfl ?_); refine bx (N := 1) #[.slice A0_0 l0_0.length c0_0] 24 ?_; intro gb247 hg w2 hbox hb; have BK247 := Aside0.mk (hbox); have GW247 := gw hg (uW HB.out); have GE247 := GW247; replace HB := cW HB hb; clear hb hbox hg; obtain ⟨hcz3_0, hfz3_0⟩ := z1 BK247))
 go_loopg [2, 8] k (fun kq v2 v8 w' => ∃ (x2_1 : Int) (x8_1 : Int), v2 = .int .i64 x2_1 ∧ v8 = .int .i64 x8_1 ∧ Aside0 (shard_Size.l0 kq x2_1 l0_0 (l0_0.length : Int) x8_1 = some r) ∧ Aside0 (kq ≤ k) ∧ Aside0 (w'.heap[gb247]? = some (.cells #[(.slice A0_0 l0_0.length c0_0)] 24 (0, 0))) ∧ Aside0 (Below w.heap.size w w'))
 case atStart => exact ⟨(0), (0), rs_, rs_, H', ⟨Nat.le_refl _⟩, ⟨uB BK247.out⟩, ⟨bl⟩⟩
 case round =>
  clear H'
  try clear c1
  try clear p2
  try clear hcz3_0
  try clear hfz3_0
  obtain ⟨x2_1, x8_1, rfl, rfl, HA, HK1, BK247, HB⟩ := hrel
  cases gk with
  | zero => exact absurd HA.out (by simp [shard_Size.l0])
  | succ k1 =>
   have H := HA.out
   clear HA
   simp only [shard_Size.l0] at H
   by_cases c4 : x8_1 < (l0_0.length : Int)
   ·
    rw [if_pos c4] at H
    have c4b0 : decide (x8_1 < (l0_0.length : Int)) = true := decide_eq_true c4
    clear c4
    obtain ⟨c5b0, H⟩ := gdd H
    obtain ⟨c6b0, H⟩ := gdd H
    have H' := Aside0.mk H
    clear H
    have p248 : 0 ≤ (x8_1 : Int) := od
    have q248 : x8_1 < (l0_0.length : Int) := od
    obtain ⟨ad248, A248_2, c248_2, e248, hx248_0, hx248_1, hx248_2, hl248_2, hi248_2⟩ := at_T59 HR0_0.out x8_1 p248 q248
    cases e248
    replace hx248_0 := kc HB hx248_0
    replace hx248_1 := kc HB hx248_1
    replace hx248_2 := kc HB hx248_2
    have HR248_2 := Aside0.mk hi248_2
    have HC248_2 := Aside0.mk hl248_2
    clear hi248_2 hl248_2
    replace p248 := eq_true p248
    replace q248 := eq_true q248
    go_wp2_with (first | ((with_reducible refine gate_dst (N := 4) rfl ?_); refine bx (N := 4) #[.int .i64 0, .string (⟨#[]⟩ : ByteArray), .slice none 0 0] 59 ?_; intro gb249 hg w7 hbox hb; have BK249 := Aside0.mk (hbox); have GW249 := gw hg bl; have GE249 := GW249; replace HB := Aside0.mk (below_step bl hb); have NB247_249 := Aside0.mk ((by rw [hg]; exact Nat.ne_of_lt (blk_lt (g := gb247) (o := .cells #[.slice (some ad248) l0_0.length c0_0] 24 (0, 0)) (uB BK247.out)) : gb247 ≠ gb249)); have NB249_247 := Aside0.mk ((by rw [hg]; exact Nat.ne_of_gt (blk_lt (g := gb247) (o := .cells #[.slice (some ad248) l0_0.length c0_0] 24 (0, 0)) (uB BK247.out)) : gb249 ≠ gb247)); replace BK247 := cB BK247 hb; clear hb hbox hg; have hnb8 := NB249_247.out; have hnc8 := NB247_249.out; obtain ⟨hcz9_0, hcz9_1, hcz9_2, hfz9_0, hfz9_1, hfz9_2⟩ := z3 BK249))
    go_roundg k1
    case measure => have := HK1.out; omega
    case rel => exact ⟨(wrap64 (x2_1 + (((rd_T59 l0_0 x8_1).f2).length : Int))), (wrap64 (x8_1 + 1)), rs_, rs_, H', ⟨by have := HK1.out; omega⟩, ⟨by (with_reducible repeat (first | refine blk_drewN ?_ _ | refine blk_drew ?_ | refine blk_alloc ?_ _)); refine blk_far ?_ NB247_249.out _; (with_reducible repeat (first | refine blk_drewN ?_ _ | refine blk_drew ?_ | refine blk_alloc ?_ _)); refine blk_far ?_ NB247_249.out _; (with_reducible repeat (first | refine blk_drewN ?_ _ | refine blk_drew ?_ | refine blk_alloc ?_ _)); refine blk_far ?_ NB247_249.out _; exact uB <| BK247.out⟩, ⟨bl⟩⟩
   ·
    rw [if_neg c4] at H
    have c4b0 : decide (x8_1 < (l0_0.length : Int)) = false := decide_eq_false c4
    clear c4
    obtain rfl := Option.some.inj H
    go_wp2
    go_ret
    exact ⟨re_, bl⟩
def chain_Prune.l0 : Nat → Int → List (S82) → Int → List (S82) → Int → Int → Option ((List (S82)))
 | 0, _, _, _, _, _, _ => none
 | k + 1, x1, x4, x5, x11, x12, x13 => if x13 < x12 then (if 0 ≤ x13 then (if x13 < (x11.length : Int) then (if x13 = x5 then (if x4.length < 2932031007402 then (chain_Prune.l0 k x1 (x4 ++ [(⟨(rd_T82 x11 x13).f0, (⟨(rd_T82 x11 x13).f1.f0, (⟨(rd_T82 x11 x13).f1.f1.f0, (rd_T82 x11 x13).f1.f1.f1⟩ : S50), (rd_T82 x11 x13).f1.f2, (rd_T82 x11 x13).f1.f3⟩ : S52)⟩ : S82)]) x5 x11 x12 (wrap64 (x13 + 1))) else (none)) else (if ((rd_T82 x11 x13).f0) > x1 then (if x4.length < 2932031007402 then (chain_Prune.l0 k x1 (x4 ++ [(⟨(rd_T82 x11 x13).f0, (⟨(rd_T82 x11 x13).f1.f0, (⟨(rd_T82 x11 x13).f1.f1.f0, (rd_T82 x11 x13).f1.f1.f1⟩ : S50), (rd_T82 x11 x13).f1.f2, (rd_T82 x11 x13).f1.f3⟩ : S52)⟩ : S82)]) x5 x11 x12 (wrap64 (x13 + 1))) else (none)) else (chain_Prune.l0 k x1 x4 x5 x11 x12 (wrap64 (x13 + 1))))) else (none)) else (none)) else (some x4)
def chain_Prune.f (k : Nat) (l0 : List (S82)) (a1 : Int) : Option ((List (S82))) := (chain_newest.f k l0 a1).bind fun t250 => (chain_Prune.l0 k a1 ([] : List (S82)) t250 l0 (l0.length : Int) 0)
theorem chain_Prune.mono_l : ∀ k, (∀ y0 y1 y2 y3 y4 y5, LeC (chain_Prune.l0 k y0 y1 y2 y3 y4 y5) (chain_Prune.l0 (k + 1) y0 y1 y2 y3 y4 y5))
 | 0 => fun _ _ _ _ _ _ => ⟨fun r h => by simp [chain_Prune.l0] at h⟩
 | k + 1 => by have ih0 := chain_Prune.mono_l k; exact fun _ _ _ _ _ _ => by unfold chain_Prune.l0; exact lm
theorem chain_Prune.mono : ∀ a0 a1 k, LeO (chain_Prune.f k a0 a1) (chain_Prune.f (k + 1) a0 a1) := by
 intro a0 a1 k
 have ih0 := chain_Prune.mono_l k
 unfold chain_Prune.f
 exact lo
instance chain_Prune.mI {a0 a1 k} : LeC (chain_Prune.f k a0 a1) (chain_Prune.f (k + 1) a0 a1) := ⟨chain_Prune.mono _ _ _⟩
theorem chain_Prune.calls (k : Nat) (A0 : Option Addr) (c0 : Nat) (l0 : List (S82)) (a1 : Int) (r : List (S82)) (w : World) (hr0 : Kd.C k82 w A0 l0.length l0) (hc0 : l0.length ≤ c0) (h : chain_Prune.f k l0 a1 = some r) :
 Calls Try.prog 40 #[.slice A0 l0.length c0, .int .i64 a1] w fun e w' => ∃ v0_ : Value, e = .returned (v0_) ∧ Kd.R k82 82 w' w.heap.size (fun _ => True) v0_ r ∧ Below w.heap.size w w' := by
 have hu82 := Try.underlying82
 have HR0 := Aside0.mk hr0
 have HC0 := Aside0.mk hc0
 clear hr0 hc0
 have HB := Aside0.mk (Below.refl w.heap.size w)
 have H : ((chain_newest.f k l0 a1).bind fun t250 => (chain_Prune.l0 k a1 ([] : List (S82)) t250 l0 (l0.length : Int) 0)) = some r := h
 clear h
 obtain ⟨t250, A3, H⟩ := bs H
 try dsimp only at H
 have H' := Aside0.mk H
 clear H
 go_enter Try.func40, Try.ntmps40
 go_wp2_with (first | (refine gL (some 10) rfl Try.func56 #[.slice A0 l0.length c0, .int .i64 a1] ?_; (with_reducible refine (chain_newest.calls k _ _ l0 a1 t250 _ ?side1 ?side2 A3.out).mono ?_); (case side1 => exact uC <| HR0.out); (case side2 => exact HC0.out); rintro e w' ⟨rfl, ⟨nd, rfl⟩⟩; refine ⟨_, rfl, ?_⟩))
 (try simp only [Act.put, List.setIfInBounds_toArray, List.set_cons_zero, List.set_cons_succ])
 go_loopg [4, 13] k (fun kq v4 v13 w' => ∃ (x4_1 : List (S82)) (x13_1 : Int), v13 = .int .i64 x13_1 ∧ Aside0 (chain_Prune.l0 kq a1 x4_1 t250 l0 (l0.length : Int) x13_1 = some r) ∧ Aside0 (kq ≤ k) ∧ Aside0 (Kd.R k82 82 w' w.heap.size (fun _ => True) v4 x4_1) ∧ Aside0 (Below w.heap.size w w'))
 case atStart => exact ⟨(([] : List (S82))), (0), rs_, H', ⟨Nat.le_refl _⟩, ⟨nl_⟩, ⟨uW HB.out⟩⟩
 case round =>
  clear H'
  try clear p2
  obtain ⟨x4_1, x13_1, rfl, HA, HK1, HO_4, HB⟩ := hrel
  cases gk with
  | zero => exact absurd HA.out (by simp [chain_Prune.l0])
  | succ k1 =>
   have H := HA.out
   clear HA
   simp only [chain_Prune.l0] at H
   by_cases c4 : x13_1 < (l0.length : Int)
   ·
    rw [if_pos c4] at H
    have c4b0 : decide (x13_1 < (l0.length : Int)) = true := decide_eq_true c4
    clear c4
    obtain ⟨c5b0, H⟩ := gdd H
    obtain ⟨c6b0, H⟩ := gdd H
    by_cases c7 : x13_1 = t250
    ·
     rw [if_pos c7] at H
     have c7b0 : (x13_1 == t250) = true := beq_iff_eq.mpr c7
     have c7b1 : (x13_1 != t250) = false := bne_eq_false_iff_eq.mpr c7
     clear c7
     obtain ⟨c8, H⟩ := gd H
     have LMc8 := Aside0.mk c8
     clear c8
     obtain ⟨y253, hy253⟩ : ∃ y_ : List (S82), y_ = (x4_1 ++ [(⟨(rd_T82 l0 x13_1).f0, (⟨(rd_T82 l0 x13_1).f1.f0, (⟨(rd_T82 l0 x13_1).f1.f1.f0, (rd_T82 l0 x13_1).f1.f1.f1⟩ : S50), (rd_T82 l0 x13_1).f1.f2, (rd_T82 l0 x13_1).f1.f3⟩ : S52)⟩ : S82)]) := ⟨_, rfl⟩
     replace H : (chain_Prune.l0 k1 a1 y253 t250 l0 (l0.length : Int) (wrap64 (x13_1 + 1))) = some r := by first | (rw [hy253]; with_reducible exact H) | (have H2_ := (Option.bind_some _ _).symm.trans H; rw [hy253]; with_reducible exact H2_) | (have H2_ := (Option.bind_some _ _).symm.trans H; with_reducible exact H2_) | with_reducible exact H | (rw [hy253]; exact H) | exact H
     have Ny253 := Aside0.mk hy253
     clear hy253
     have H' := Aside0.mk H
     clear H
     have p251 : 0 ≤ (x13_1 : Int) := od
     have q251 : x13_1 < (l0.length : Int) := od
     obtain ⟨ad251, e251, hx251_0, hx251_1, hx251_2, hx251_3, hx251_4, hx251_5⟩ := at_T82 HR0.out x13_1 p251 q251
     cases e251
     replace hx251_0 := kc HB hx251_0
     replace hx251_1 := kc HB hx251_1
     replace hx251_2 := kc HB hx251_2
     replace hx251_3 := kc HB hx251_3
     replace hx251_4 := kc HB hx251_4
     replace hx251_5 := kc HB hx251_5
     replace p251 := eq_true p251
     replace q251 := eq_true q251
     go_wp2_with (first | ((with_reducible refine gate_dst (N := 7) rfl ?_); refine bx (N := 7) #[.int .i64 0, .int .i64 0, .int .i64 0, .bool false, .int .i64 0, .int .i64 0] 82 ?_; intro gb252 hg w9 hbox hb; replace HO_4 := Aside0.mk (Kd.R_below (Kd.R_elderB (uR HO_4.out) gb252 (Nat.le_of_eq hg.symm)) hb); have BK252 := Aside0.mk (hbox); have GW252 := gw hg (uW HB.out); have GE252 := GW252; replace HB := cW HB hb; clear hb hbox hg; obtain ⟨hcz10_0, hcz10_1, hcz10_2, hcz10_3, hcz10_4, hcz10_5, hfz10_0, hfz10_1, hfz10_2, hfz10_3, hfz10_4, hfz10_5⟩ := z6 BK252) | ((with_reducible refine gate_store (t := 82) (p := 7) rfl ?_); refine store_event (t := 82) (p := 7) (v := ?vo_w11) (w1 := ((((((w9.setCell ⟨gb252, 0, none⟩ (.int .i64 ((rd_T82 l0 x13_1).f0))).setCell ⟨gb252, 1, none⟩ (.int .i64 ((rd_T82 l0 x13_1).f1.f0))).setCell ⟨gb252, 2, none⟩ (.int .i64 ((rd_T82 l0 x13_1).f1.f1.f0))).setCell ⟨gb252, 3, none⟩ (.bool ((rd_T82 l0 x13_1).f1.f1.f1))).setCell ⟨gb252, 4, none⟩ (.int .i64 ((rd_T82 l0 x13_1).f1.f2))).setCell ⟨gb252, 5, none⟩ (.int .i64 ((rd_T82 l0 x13_1).f1.f3)))) ?hg ?ho ?hn ?hr ?_; (case ho => rfl); (case hg => rfl); (case hn => rfl); (case hr => first | (go_simp; done) | (go_simp; rfl)); intro w11 hw; have n0_ : Aside0 (Kd.R k82 82 w11 w.heap.size (fun k_ => k_ ≠ gb252) u4 x4_1) := ⟨(by rw [hw]; exact (by exact uR <| Kd.R_mono (Kd.R_far (p := ⟨gb252, 5, none⟩) (Kd.R_far (p := ⟨gb252, 4, none⟩) (Kd.R_far (p := ⟨gb252, 3, none⟩) (Kd.R_far (p := ⟨gb252, 2, none⟩) (Kd.R_far (p := ⟨gb252, 1, none⟩) (Kd.R_far (p := ⟨gb252, 0, none⟩) (Kd.R_mono HO_4.out (fun k_ hk => (⟨hk, hk.2⟩ : _ ∧ k_ ≠ gb252))) (fun _ hk => hk.2) (.int .i64 ((rd_T82 l0 x13_1).f0))) (fun _ hk => hk.2) (.int .i64 ((rd_T82 l0 x13_1).f1.f0))) (fun _ hk => hk.2) (.int .i64 ((rd_T82 l0 x13_1).f1.f1.f0))) (fun _ hk => hk.2) (.bool ((rd_T82 l0 x13_1).f1.f1.f1))) (fun _ hk => hk.2) (.int .i64 ((rd_T82 l0 x13_1).f1.f2))) (fun _ hk => hk.2) (.int .i64 ((rd_T82 l0 x13_1).f1.f3))) (fun _ hk => hk.1.2)))⟩; have n1_ : Aside0 (w11.heap[gb252]? = some (.cells #[.int .i64 ((rd_T82 l0 x13_1).f0), .int .i64 ((rd_T82 l0 x13_1).f1.f0), .int .i64 ((rd_T82 l0 x13_1).f1.f1.f0), .bool ((rd_T82 l0 x13_1).f1.f1.f1), .int .i64 ((rd_T82 l0 x13_1).f1.f2), .int .i64 ((rd_T82 l0 x13_1).f1.f3)] 82 (0, 0))) := ⟨(by rw [hw]; exact (by (with_reducible repeat (first | refine blk_drewN ?_ _ | refine blk_drew ?_ | refine blk_alloc ?_ _)); refine blk_put (cs := #[.int .i64 ((rd_T82 l0 x13_1).f0), .int .i64 ((rd_T82 l0 x13_1).f1.f0), .int .i64 ((rd_T82 l0 x13_1).f1.f1.f0), .bool ((rd_T82 l0 x13_1).f1.f1.f1), .int .i64 ((rd_T82 l0 x13_1).f1.f2), .int .i64 0]) ?_ 5 _ rfl; (with_reducible repeat (first | refine blk_drewN ?_ _ | refine blk_drew ?_ | refine blk_alloc ?_ _)); refine blk_put (cs := #[.int .i64 ((rd_T82 l0 x13_1).f0), .int .i64 ((rd_T82 l0 x13_1).f1.f0), .int .i64 ((rd_T82 l0 x13_1).f1.f1.f0), .bool ((rd_T82 l0 x13_1).f1.f1.f1), .int .i64 0, .int .i64 0]) ?_ 4 _ rfl; (with_reducible repeat (first | refine blk_drewN ?_ _ | refine blk_drew ?_ | refine blk_alloc ?_ _)); refine blk_put (cs := #[.int .i64 ((rd_T82 l0 x13_1).f0), .int .i64 ((rd_T82 l0 x13_1).f1.f0), .int .i64 ((rd_T82 l0 x13_1).f1.f1.f0), .bool false, .int .i64 0, .int .i64 0]) ?_ 3 _ rfl; (with_reducible repeat (first | refine blk_drewN ?_ _ | refine blk_drew ?_ | refine blk_alloc ?_ _)); refine blk_put (cs := #[.int .i64 ((rd_T82 l0 x13_1).f0), .int .i64 ((rd_T82 l0 x13_1).f1.f0), .int .i64 0, .bool false, .int .i64 0, .int .i64 0]) ?_ 2 _ rfl; (with_reducible repeat (first | refine blk_drewN ?_ _ | refine blk_drew ?_ | refine blk_alloc ?_ _)); refine blk_put (cs := #[.int .i64 ((rd_T82 l0 x13_1).f0), .int .i64 0, .int .i64 0, .bool false, .int .i64 0, .int .i64 0]) ?_ 1 _ rfl; (with_reducible repeat (first | refine blk_drewN ?_ _ | refine blk_drew ?_ | refine blk_alloc ?_ _)); refine blk_put (cs := #[.int .i64 0, .int .i64 0, .int .i64 0, .bool false, .int .i64 0, .int .i64 0]) ?_ 0 _ rfl; exact uB <| BK252.out))⟩; have n2_ : Aside0 (Below w.heap.size w w11) := ⟨(by rw [hw]; exact bl)⟩; clear hw; clear HO_4; clear BK252; clear HB; have HO_4 := n0_; have BK252 := n1_; have HB := n2_; clear n0_ n1_ n2_; obtain ⟨hcz12_0, hcz12_1, hcz12_2, hcz12_3, hcz12_4, hcz12_5, hfz12_0, hfz12_1, hfz12_2, hfz12_3, hfz12_4, hfz12_5⟩ := z6 BK252) | ((with_reducible refine gate_builtin (b := .append) (xs := #[.tmp 27, .tmp 29]) rfl ?_); at_builtin; refine Kd.R_append k82 (w0 := w) w.heap.size rfl (.tmp 27) (.tmp 29) 57 82 (.agg #[(.int .i64 0), (.int .i64 0), (.int .i64 0), (.bool false), (.int .i64 0), (.int .i64 0)]) 48 rfl Try.underlying57 info82 rfl (by decide) (by omega) u4 x4_1 (⟨(rd_T82 l0 x13_1).f0, (⟨(rd_T82 l0 x13_1).f1.f0, (⟨(rd_T82 l0 x13_1).f1.f1.f0, (rd_T82 l0 x13_1).f1.f1.f1⟩ : S50), (rd_T82 l0 x13_1).f1.f2, (rd_T82 l0 x13_1).f1.f3⟩ : S52)⟩ : S82) [.int .i64 ((rd_T82 l0 x13_1).f0), .int .i64 ((rd_T82 l0 x13_1).f1.f0), .int .i64 ((rd_T82 l0 x13_1).f1.f1.f0), .bool ((rd_T82 l0 x13_1).f1.f1.f1), .int .i64 ((rd_T82 l0 x13_1).f1.f2), .int .i64 ((rd_T82 l0 x13_1).f1.f3)] (fun k_ => k_ ≠ gb252) (fun _ => False) rfl rfl ?aP (fun _ hk => hk.elim) ?aF ?aO ?aB ?aS ?aL ?_; (case aP => exact k82_mkM _ _ _ (⟨(rd_T82 l0 x13_1).f0, (⟨(rd_T82 l0 x13_1).f1.f0, (⟨(rd_T82 l0 x13_1).f1.f1.f0, (rd_T82 l0 x13_1).f1.f1.f1⟩ : S50), (rd_T82 l0 x13_1).f1.f2, (rd_T82 l0 x13_1).f1.f3⟩ : S52)⟩ : S82)); (case aB => exact bl); (case aF => exact (fun k_ hk => Kd.freshB (g := gb252) (o := .cells #[.int .i64 ((rd_T82 l0 x13_1).f0), .int .i64 ((rd_T82 l0 x13_1).f1.f0), .int .i64 ((rd_T82 l0 x13_1).f1.f1.f0), .bool ((rd_T82 l0 x13_1).f1.f1.f1), .int .i64 ((rd_T82 l0 x13_1).f1.f2), .int .i64 ((rd_T82 l0 x13_1).f1.f3)] 82 (0, 0)) (uB BK252.out) k_ hk)); (case aO => exact (uR HO_4.out)); (case aS => exact (below_size bl)); (case aL => have := LMc8.out; omega); intro v254 w13 ho hb hg hat; rw [← Ny253.out] at ho; replace BK252 := Aside0.mk (blk_grown (g := gb252) (o := .cells #[.int .i64 ((rd_T82 l0 x13_1).f0), .int .i64 ((rd_T82 l0 x13_1).f1.f0), .int .i64 ((rd_T82 l0 x13_1).f1.f1.f0), .bool ((rd_T82 l0 x13_1).f1.f1.f1), .int .i64 ((rd_T82 l0 x13_1).f1.f2), .int .i64 ((rd_T82 l0 x13_1).f1.f3)] 82 (0, 0)) (uB BK252.out) hg (Kd.R_away HO_4.out (fun _ hk => hk))); replace HB := Aside0.mk (hb); have HO255 := Aside0.mk (ho); clear HO_4; clear ho hb hg hat))
     go_roundg k1
     case measure => have := HK1.out; omega
     case rel => exact ⟨(y253), (wrap64 (x13_1 + 1)), rs_, H', ⟨by have := HK1.out; omega⟩, ⟨by exact uR <| Kd.R_mono HO255.out (fun _ hk => trivial)⟩, ⟨bl⟩⟩
    ·
     rw [if_neg c7] at H
     have c7b0 : (x13_1 == t250) = false := beq_eq_false_iff_ne.mpr c7
     have c7b1 : (x13_1 != t250) = true := bne_iff_ne.mpr c7
     by_cases c14 : ((rd_T82 l0 x13_1).f0) > a1
     ·
      rw [if_pos c14] at H
      have c14b0 : decide (a1 < ((rd_T82 l0 x13_1).f0)) = true := decide_eq_true c14
      clear c14
      obtain ⟨c15, H⟩ := gd H
      have LMc15 := Aside0.mk c15
      clear c15
      obtain ⟨y256, hy256⟩ : ∃ y_ : List (S82), y_ = (x4_1 ++ [(⟨(rd_T82 l0 x13_1).f0, (⟨(rd_T82 l0 x13_1).f1.f0, (⟨(rd_T82 l0 x13_1).f1.f1.f0, (rd_T82 l0 x13_1).f1.f1.f1⟩ : S50), (rd_T82 l0 x13_1).f1.f2, (rd_T82 l0 x13_1).f1.f3⟩ : S52)⟩ : S82)]) := ⟨_, rfl⟩
      replace H : (chain_Prune.l0 k1 a1 y256 t250 l0 (l0.length : Int) (wrap64 (x13_1 + 1))) = some r := by first | (rw [hy256]; with_reducible exact H) | (have H2_ := (Option.bind_some _ _).symm.trans H; rw [hy256]; with_reducible exact H2_) | (have H2_ := (Option.bind_some _ _).symm.trans H; with_reducible exact H2_) | with_reducible exact H | (rw [hy256]; exact H) | exact H
      have Ny256 := Aside0.mk hy256
      clear hy256
      have H' := Aside0.mk H
      clear H
      have p251 : 0 ≤ (x13_1 : Int) := od
      have q251 : x13_1 < (l0.length : Int) := od
      obtain ⟨ad251, e251, hx251_0, hx251_1, hx251_2, hx251_3, hx251_4, hx251_5⟩ := at_T82 HR0.out x13_1 p251 q251
      cases e251
      replace hx251_0 := kc HB hx251_0
      replace hx251_1 := kc HB hx251_1
      replace hx251_2 := kc HB hx251_2
      replace hx251_3 := kc HB hx251_3
      replace hx251_4 := kc HB hx251_4
      replace hx251_5 := kc HB hx251_5
      replace p251 := eq_true p251
      replace q251 := eq_true q251
      go_wp2_with (first | ((with_reducible refine gate_dst (N := 7) rfl ?_); refine bx (N := 7) #[.int .i64 0, .int .i64 0, .int .i64 0, .bool false, .int .i64 0, .int .i64 0] 82 ?_; intro gb252 hg w16 hbox hb; replace HO_4 := Aside0.mk (Kd.R_below (Kd.R_elderB (uR HO_4.out) gb252 (Nat.le_of_eq hg.symm)) hb); have BK252 := Aside0.mk (hbox); have GW252 := gw hg (uW HB.out); have GE252 := GW252; replace HB := cW HB hb; clear hb hbox hg; obtain ⟨hcz17_0, hcz17_1, hcz17_2, hcz17_3, hcz17_4, hcz17_5, hfz17_0, hfz17_1, hfz17_2, hfz17_3, hfz17_4, hfz17_5⟩ := z6 BK252) | ((with_reducible refine gate_store (t := 82) (p := 7) rfl ?_); refine store_event (t := 82) (p := 7) (v := ?vo_w18) (w1 := ((((((w16.setCell ⟨gb252, 0, none⟩ (.int .i64 ((rd_T82 l0 x13_1).f0))).setCell ⟨gb252, 1, none⟩ (.int .i64 ((rd_T82 l0 x13_1).f1.f0))).setCell ⟨gb252, 2, none⟩ (.int .i64 ((rd_T82 l0 x13_1).f1.f1.f0))).setCell ⟨gb252, 3, none⟩ (.bool ((rd_T82 l0 x13_1).f1.f1.f1))).setCell ⟨gb252, 4, none⟩ (.int .i64 ((rd_T82 l0 x13_1).f1.f2))).setCell ⟨gb252, 5, none⟩ (.int .i64 ((rd_T82 l0 x13_1).f1.f3)))) ?hg ?ho ?hn ?hr ?_; (case ho => rfl); (case hg => rfl); (case hn => rfl); (case hr => first | (go_simp; done) | (go_simp; rfl)); intro w18 hw; have n0_ : Aside0 (Kd.R k82 82 w18 w.heap.size (fun k_ => k_ ≠ gb252) u4 x4_1) := ⟨(by rw [hw]; exact (by exact uR <| Kd.R_mono (Kd.R_far (p := ⟨gb252, 5, none⟩) (Kd.R_far (p := ⟨gb252, 4, none⟩) (Kd.R_far (p := ⟨gb252, 3, none⟩) (Kd.R_far (p := ⟨gb252, 2, none⟩) (Kd.R_far (p := ⟨gb252, 1, none⟩) (Kd.R_far (p := ⟨gb252, 0, none⟩) (Kd.R_mono HO_4.out (fun k_ hk => (⟨hk, hk.2⟩ : _ ∧ k_ ≠ gb252))) (fun _ hk => hk.2) (.int .i64 ((rd_T82 l0 x13_1).f0))) (fun _ hk => hk.2) (.int .i64 ((rd_T82 l0 x13_1).f1.f0))) (fun _ hk => hk.2) (.int .i64 ((rd_T82 l0 x13_1).f1.f1.f0))) (fun _ hk => hk.2) (.bool ((rd_T82 l0 x13_1).f1.f1.f1))) (fun _ hk => hk.2) (.int .i64 ((rd_T82 l0 x13_1).f1.f2))) (fun _ hk => hk.2) (.int .i64 ((rd_T82 l0 x13_1).f1.f3))) (fun _ hk => hk.1.2)))⟩; have n1_ : Aside0 (w18.heap[gb252]? = some (.cells #[.int .i64 ((rd_T82 l0 x13_1).f0), .int .i64 ((rd_T82 l0 x13_1).f1.f0), .int .i64 ((rd_T82 l0 x13_1).f1.f1.f0), .bool ((rd_T82 l0 x13_1).f1.f1.f1), .int .i64 ((rd_T82 l0 x13_1).f1.f2), .int .i64 ((rd_T82 l0 x13_1).f1.f3)] 82 (0, 0))) := ⟨(by rw [hw]; exact (by (with_reducible repeat (first | refine blk_drewN ?_ _ | refine blk_drew ?_ | refine blk_alloc ?_ _)); refine blk_put (cs := #[.int .i64 ((rd_T82 l0 x13_1).f0), .int .i64 ((rd_T82 l0 x13_1).f1.f0), .int .i64 ((rd_T82 l0 x13_1).f1.f1.f0), .bool ((rd_T82 l0 x13_1).f1.f1.f1), .int .i64 ((rd_T82 l0 x13_1).f1.f2), .int .i64 0]) ?_ 5 _ rfl; (with_reducible repeat (first | refine blk_drewN ?_ _ | refine blk_drew ?_ | refine blk_alloc ?_ _)); refine blk_put (cs := #[.int .i64 ((rd_T82 l0 x13_1).f0), .int .i64 ((rd_T82 l0 x13_1).f1.f0), .int .i64 ((rd_T82 l0 x13_1).f1.f1.f0), .bool ((rd_T82 l0 x13_1).f1.f1.f1), .int .i64 0, .int .i64 0]) ?_ 4 _ rfl; (with_reducible repeat (first | refine blk_drewN ?_ _ | refine blk_drew ?_ | refine blk_alloc ?_ _)); refine blk_put (cs := #[.int .i64 ((rd_T82 l0 x13_1).f0), .int .i64 ((rd_T82 l0 x13_1).f1.f0), .int .i64 ((rd_T82 l0 x13_1).f1.f1.f0), .bool false, .int .i64 0, .int .i64 0]) ?_ 3 _ rfl; (with_reducible repeat (first | refine blk_drewN ?_ _ | refine blk_drew ?_ | refine blk_alloc ?_ _)); refine blk_put (cs := #[.int .i64 ((rd_T82 l0 x13_1).f0), .int .i64 ((rd_T82 l0 x13_1).f1.f0), .int .i64 0, .bool false, .int .i64 0, .int .i64 0]) ?_ 2 _ rfl; (with_reducible repeat (first | refine blk_drewN ?_ _ | refine blk_drew ?_ | refine blk_alloc ?_ _)); refine blk_put (cs := #[.int .i64 ((rd_T82 l0 x13_1).f0), .int .i64 0, .int .i64 0, .bool false, .int .i64 0, .int .i64 0]) ?_ 1 _ rfl; (with_reducible repeat (first | refine blk_drewN ?_ _ | refine blk_drew ?_ | refine blk_alloc ?_ _)); refine blk_put (cs := #[.int .i64 0, .int .i64 0, .int .i64 0, .bool false, .int .i64 0, .int .i64 0]) ?_ 0 _ rfl; exact uB <| BK252.out))⟩; have n2_ : Aside0 (Below w.heap.size w w18) := ⟨(by rw [hw]; exact bl)⟩; clear hw; clear HO_4; clear BK252; clear HB; have HO_4 := n0_; have BK252 := n1_; have HB := n2_; clear n0_ n1_ n2_; obtain ⟨hcz19_0, hcz19_1, hcz19_2, hcz19_3, hcz19_4, hcz19_5, hfz19_0, hfz19_1, hfz19_2, hfz19_3, hfz19_4, hfz19_5⟩ := z6 BK252) | ((with_reducible refine gate_builtin (b := .append) (xs := #[.tmp 27, .tmp 29]) rfl ?_); at_builtin; refine Kd.R_append k82 (w0 := w) w.heap.size rfl (.tmp 27) (.tmp 29) 57 82 (.agg #[(.int .i64 0), (.int .i64 0), (.int .i64 0), (.bool false), (.int .i64 0), (.int .i64 0)]) 48 rfl Try.underlying57 info82 rfl (by decide) (by omega) u4 x4_1 (⟨(rd_T82 l0 x13_1).f0, (⟨(rd_T82 l0 x13_1).f1.f0, (⟨(rd_T82 l0 x13_1).f1.f1.f0, (rd_T82 l0 x13_1).f1.f1.f1⟩ : S50), (rd_T82 l0 x13_1).f1.f2, (rd_T82 l0 x13_1).f1.f3⟩ : S52)⟩ : S82) [.int .i64 ((rd_T82 l0 x13_1).f0), .int .i64 ((rd_T82 l0 x13_1).f1.f0), .int .i64 ((rd_T82 l0 x13_1).f1.f1.f0), .bool ((rd_T82 l0 x13_1).f1.f1.f1), .int .i64 ((rd_T82 l0 x13_1).f1.f2), .int .i64 ((rd_T82 l0 x13_1).f1.f3)] (fun k_ => k_ ≠ gb252) (fun _ => False) rfl rfl ?aP (fun _ hk => hk.elim) ?aF ?aO ?aB ?aS ?aL ?_; (case aP => exact k82_mkM _ _ _ (⟨(rd_T82 l0 x13_1).f0, (⟨(rd_T82 l0 x13_1).f1.f0, (⟨(rd_T82 l0 x13_1).f1.f1.f0, (rd_T82 l0 x13_1).f1.f1.f1⟩ : S50), (rd_T82 l0 x13_1).f1.f2, (rd_T82 l0 x13_1).f1.f3⟩ : S52)⟩ : S82)); (case aB => exact bl); (case aF => exact (fun k_ hk => Kd.freshB (g := gb252) (o := .cells #[.int .i64 ((rd_T82 l0 x13_1).f0), .int .i64 ((rd_T82 l0 x13_1).f1.f0), .int .i64 ((rd_T82 l0 x13_1).f1.f1.f0), .bool ((rd_T82 l0 x13_1).f1.f1.f1), .int .i64 ((rd_T82 l0 x13_1).f1.f2), .int .i64 ((rd_T82 l0 x13_1).f1.f3)] 82 (0, 0)) (uB BK252.out) k_ hk)); (case aO => exact (uR HO_4.out)); (case aS => exact (below_size bl)); (case aL => have := LMc15.out; omega); intro v257 w20 ho hb hg hat; rw [← Ny256.out] at ho; replace BK252 := Aside0.mk (blk_grown (g := gb252) (o := .cells #[.int .i64 ((rd_T82 l0 x13_1).f0), .int .i64 ((rd_T82 l0 x13_1).f1.f0), .int .i64 ((rd_T82 l0 x13_1).f1.f1.f0), .bool ((rd_T82 l0 x13_1).f1.f1.f1), .int .i64 ((rd_T82 l0 x13_1).f1.f2), .int .i64 ((rd_T82 l0 x13_1).f1.f3)] 82 (0, 0)) (uB BK252.out) hg (Kd.R_away HO_4.out (fun _ hk => hk))); replace HB := Aside0.mk (hb); have HO258 := Aside0.mk (ho); clear HO_4; clear ho hb hg hat))
      go_roundg k1
      case measure => have := HK1.out; omega
      case rel => exact ⟨(y256), (wrap64 (x13_1 + 1)), rs_, H', ⟨by have := HK1.out; omega⟩, ⟨by exact uR <| Kd.R_mono HO258.out (fun _ hk => trivial)⟩, ⟨bl⟩⟩
     ·
      rw [if_neg c14] at H
      have c14b0 : decide (a1 < ((rd_T82 l0 x13_1).f0)) = false := decide_eq_false c14
      clear c14
      have H' := Aside0.mk H
      clear H
      have p251 : 0 ≤ (x13_1 : Int) := od
      have q251 : x13_1 < (l0.length : Int) := od
      obtain ⟨ad251, e251, hx251_0, hx251_1, hx251_2, hx251_3, hx251_4, hx251_5⟩ := at_T82 HR0.out x13_1 p251 q251
      cases e251
      replace hx251_0 := kc HB hx251_0
      replace hx251_1 := kc HB hx251_1
      replace hx251_2 := kc HB hx251_2
      replace hx251_3 := kc HB hx251_3
      replace hx251_4 := kc HB hx251_4
      replace hx251_5 := kc HB hx251_5
      replace p251 := eq_true p251
      replace q251 := eq_true q251
      go_wp2_with (first | ((with_reducible refine gate_dst (N := 7) rfl ?_); refine bx (N := 7) #[.int .i64 0, .int .i64 0, .int .i64 0, .bool false, .int .i64 0, .int .i64 0] 82 ?_; intro gb252 hg w21 hbox hb; replace HO_4 := Aside0.mk (Kd.R_below (Kd.R_elderB (uR HO_4.out) gb252 (Nat.le_of_eq hg.symm)) hb); have BK252 := Aside0.mk (hbox); have GW252 := gw hg (uW HB.out); have GE252 := GW252; replace HB := cW HB hb; clear hb hbox hg; obtain ⟨hcz22_0, hcz22_1, hcz22_2, hcz22_3, hcz22_4, hcz22_5, hfz22_0, hfz22_1, hfz22_2, hfz22_3, hfz22_4, hfz22_5⟩ := z6 BK252) | ((with_reducible refine gate_store (t := 82) (p := 7) rfl ?_); refine store_event (t := 82) (p := 7) (v := ?vo_w23) (w1 := ((((((w21.setCell ⟨gb252, 0, none⟩ (.int .i64 ((rd_T82 l0 x13_1).f0))).setCell ⟨gb252, 1, none⟩ (.int .i64 ((rd_T82 l0 x13_1).f1.f0))).setCell ⟨gb252, 2, none⟩ (.int .i64 ((rd_T82 l0 x13_1).f1.f1.f0))).setCell ⟨gb252, 3, none⟩ (.bool ((rd_T82 l0 x13_1).f1.f1.f1))).setCell ⟨gb252, 4, none⟩ (.int .i64 ((rd_T82 l0 x13_1).f1.f2))).setCell ⟨gb252, 5, none⟩ (.int .i64 ((rd_T82 l0 x13_1).f1.f3)))) ?hg ?ho ?hn ?hr ?_; (case ho => rfl); (case hg => rfl); (case hn => rfl); (case hr => first | (go_simp; done) | (go_simp; rfl)); intro w23 hw; have n0_ : Aside0 (Kd.R k82 82 w23 w.heap.size (fun k_ => k_ ≠ gb252) u4 x4_1) := ⟨(by rw [hw]; exact (by exact uR <| Kd.R_mono (Kd.R_far (p := ⟨gb252, 5, none⟩) (Kd.R_far (p := ⟨gb252, 4, none⟩) (Kd.R_far (p := ⟨gb252, 3, none⟩) (Kd.R_far (p := ⟨gb252, 2, none⟩) (Kd.R_far (p := ⟨gb252, 1, none⟩) (Kd.R_far (p := ⟨gb252, 0, none⟩) (Kd.R_mono HO_4.out (fun k_ hk => (⟨hk, hk.2⟩ : _ ∧ k_ ≠ gb252))) (fun _ hk => hk.2) (.int .i64 ((rd_T82 l0 x13_1).f0))) (fun _ hk => hk.2) (.int .i64 ((rd_T82 l0 x13_1).f1.f0))) (fun _ hk => hk.2) (.int .i64 ((rd_T82 l0 x13_1).f1.f1.f0))) (fun _ hk => hk.2) (.bool ((rd_T82 l0 x13_1).f1.f1.f1))) (fun _ hk => hk.2) (.int .i64 ((rd_T82 l0 x13_1).f1.f2))) (fun _ hk => hk.2) (.int .i64 ((rd_T82 l0 x13_1).f1.f3))) (fun _ hk => hk.1.2)))⟩; have n1_ : Aside0 (w23.heap[gb252]? = some (.cells #[.int .i64 ((rd_T82 l0 x13_1).f0), .int .i64 ((rd_T82 l0 x13_1).f1.f0), .int .i64 ((rd_T82 l0 x13_1).f1.f1.f0), .bool ((rd_T82 l0 x13_1).f1.f1.f1), .int .i64 ((rd_T82 l0 x13_1).f1.f2), .int .i64 ((rd_T82 l0 x13_1).f1.f3)] 82 (0, 0))) := ⟨(by rw [hw]; exact (by (with_reducible repeat (first | refine blk_drewN ?_ _ | refine blk_drew ?_ | refine blk_alloc ?_ _)); refine blk_put (cs := #[.int .i64 ((rd_T82 l0 x13_1).f0), .int .i64 ((rd_T82 l0 x13_1).f1.f0), .int .i64 ((rd_T82 l0 x13_1).f1.f1.f0), .bool ((rd_T82 l0 x13_1).f1.f1.f1), .int .i64 ((rd_T82 l0 x13_1).f1.f2), .int .i64 0]) ?_ 5 _ rfl; (with_reducible repeat (first | refine blk_drewN ?_ _ | refine blk_drew ?_ | refine blk_alloc ?_ _)); refine blk_put (cs := #[.int .i64 ((rd_T82 l0 x13_1).f0), .int .i64 ((rd_T82 l0 x13_1).f1.f0), .int .i64 ((rd_T82 l0 x13_1).f1.f1.f0), .bool ((rd_T82 l0 x13_1).f1.f1.f1), .int .i64 0, .int .i64 0]) ?_ 4 _ rfl; (with_reducible repeat (first | refine blk_drewN ?_ _ | refine blk_drew ?_ | refine blk_alloc ?_ _)); refine blk_put (cs := #[.int .i64 ((rd_T82 l0 x13_1).f0), .int .i64 ((rd_T82 l0 x13_1).f1.f0), .int .i64 ((rd_T82 l0 x13_1).f1.f1.f0), .bool false, .int .i64 0, .int .i64 0]) ?_ 3 _ rfl; (with_reducible repeat (first | refine blk_drewN ?_ _ | refine blk_drew ?_ | refine blk_alloc ?_ _)); refine blk_put (cs := #[.int .i64 ((rd_T82 l0 x13_1).f0), .int .i64 ((rd_T82 l0 x13_1).f1.f0), .int .i64 0, .bool false, .int .i64 0, .int .i64 0]) ?_ 2 _ rfl; (with_reducible repeat (first | refine blk_drewN ?_ _ | refine blk_drew ?_ | refine blk_alloc ?_ _)); refine blk_put (cs := #[.int .i64 ((rd_T82 l0 x13_1).f0), .int .i64 0, .int .i64 0, .bool false, .int .i64 0, .int .i64 0]) ?_ 1 _ rfl; (with_reducible repeat (first | refine blk_drewN ?_ _ | refine blk_drew ?_ | refine blk_alloc ?_ _)); refine blk_put (cs := #[.int .i64 0, .int .i64 0, .int .i64 0, .bool false, .int .i64 0, .int .i64 0]) ?_ 0 _ rfl; exact uB <| BK252.out))⟩; have n2_ : Aside0 (Below w.heap.size w w23) := ⟨(by rw [hw]; exact bl)⟩; clear hw; clear HO_4; clear BK252; clear HB; have HO_4 := n0_; have BK252 := n1_; have HB := n2_; clear n0_ n1_ n2_; obtain ⟨hcz24_0, hcz24_1, hcz24_2, hcz24_3, hcz24_4, hcz24_5, hfz24_0, hfz24_1, hfz24_2, hfz24_3, hfz24_4, hfz24_5⟩ := z6 BK252))
      go_roundg k1
      case measure => have := HK1.out; omega
      case rel => exact ⟨(x4_1), (wrap64 (x13_1 + 1)), rs_, H', ⟨by have := HK1.out; omega⟩, ⟨by exact uR <| Kd.R_mono HO_4.out (fun _ hk => trivial)⟩, ⟨bl⟩⟩
   ·
    rw [if_neg c4] at H
    have c4b0 : decide (x13_1 < (l0.length : Int)) = false := decide_eq_false c4
    clear c4
    obtain rfl := Option.some.inj H
    go_wp2
    go_ret
    exact ⟨_, re_, uR HO_4.out, uW HB.out⟩
def shard_Prune.l0 : Nat → Int → List (S39) → List (S59) → Int → Int → List (S59) → Option ((List (S59)))
 | 0, _, _, _, _, _, _ => none
 | k + 1, x1, x2, x10, x11, x12, x261000 => if x12 < x11 then (if 0 ≤ x12 then (if x12 < (x10.length : Int) then ((shard_dropped.f x2 ((rd_T59 x10 x12).f0) x1).bind fun t263 => (if t263 = true then (shard_Prune.l0 k x1 x2 x10 x11 (wrap64 (x12 + 1)) x261000) else ((chain_Prune.f k ((rd_T59 x10 x12).f2) x1).bind fun t264 => (if x261000.length < 2932031007402 then (shard_Prune.l0 k x1 x2 x10 x11 (wrap64 (x12 + 1)) (x261000 ++ [(⟨(rd_T59 x10 x12).f0, (rd_T59 x10 x12).f1, t264⟩ : S59)])) else (none))))) else (none)) else (none)) else (some x261000)
def shard_Prune.f (k : Nat) (l0_0 : List (S59)) (a1 : Int) (l2 : List (S39)) : Option ((List (S59))) := shard_Prune.l0 k a1 l2 l0_0 (l0_0.length : Int) 0 ([] : List (S59))
theorem shard_Prune.mono_l : ∀ k, (∀ y0 y1 y2 y3 y4 y5, LeC (shard_Prune.l0 k y0 y1 y2 y3 y4 y5) (shard_Prune.l0 (k + 1) y0 y1 y2 y3 y4 y5))
 | 0 => fun _ _ _ _ _ _ => ⟨fun r h => by simp [shard_Prune.l0] at h⟩
 | k + 1 => by have ih0 := shard_Prune.mono_l k; exact fun _ _ _ _ _ _ => by unfold shard_Prune.l0; exact lm
theorem shard_Prune.mono : ∀ a0 a1 a2 k, LeO (shard_Prune.f k a0 a1 a2) (shard_Prune.f (k + 1) a0 a1 a2) := by
 intro a0 a1 a2 k
 have ih0 := shard_Prune.mono_l k
 unfold shard_Prune.f
 exact lo
instance shard_Prune.mI {a0 a1 a2 k} : LeC (shard_Prune.f k a0 a1 a2) (shard_Prune.f (k + 1) a0 a1 a2) := ⟨shard_Prune.mono _ _ _ _⟩
theorem shard_Prune.calls (k : Nat) (A0_0 : Option Addr) (c0_0 : Nat) (l0_0 : List (S59)) (a1 : Int) (A2 : Option Addr) (c2 : Nat) (l2 : List (S39)) (r : List (S59)) (w : World) (hr0_0 : Kd.C k59 w A0_0 l0_0.length l0_0) (hc0_0 : l0_0.length ≤ c0_0) (hr2 : Kd.C k39 w A2 l2.length l2) (hc2 : l2.length ≤ c2) (h : shard_Prune.f k l0_0 a1 l2 = some r) :
 Calls Try.prog 21 #[.agg #[.slice A0_0 l0_0.length c0_0], .int .i64 a1, .slice A2 l2.length c2] w fun e w' => ∃ v0_ : Value, e = .returned (.agg #[v0_]) ∧ Kd.S k59 59 w' w.heap.size (fun _ => True) v0_ r ∧ Below w.heap.size w w' := by
 have hu24 := Try.underlying24
 have hu59 := Try.underlying59
 have HR0_0 := Aside0.mk hr0_0
 have HC0_0 := Aside0.mk hc0_0
 clear hr0_0 hc0_0
 have HR2 := Aside0.mk hr2
 have HC2 := Aside0.mk hc2
 clear hr2 hc2
 have HB := Aside0.mk (Below.refl w.heap.size w)
 have H : (shard_Prune.l0 k a1 l2 l0_0 (l0_0.length : Int) 0 ([] : List (S59))) = some r := h
 clear h
 have H' := Aside0.mk H
 clear H
 go_enter Try.func21, Try.ntmps21
 go_wp2_with (first | ((with_reducible refine gate_dst (N := 3) rfl ?_); refine bx (N := 3) #[.slice A0_0 l0_0.length c0_0] 24 ?_; intro gb259 hg w4 hbox hb; have BK259 := Aside0.mk (hbox); have GW259 := gw hg (uW HB.out); have GE259 := GW259; replace HB := cW HB hb; clear hb hbox hg) | ((with_reducible refine gate_dst (N := 6) rfl ?_); refine bx (N := 6) #[.slice none 0 0] 24 ?_; intro gb260 hg w5 hbox hb; have BK260 := Aside0.mk (hbox); have GW260 := gw hg bl; have GE260 := GW260; replace HB := Aside0.mk (below_step bl hb); have NB259_260 := Aside0.mk ((by rw [hg]; exact Nat.ne_of_lt (blk_lt (g := gb259) (o := .cells #[.slice A0_0 l0_0.length c0_0] 24 (0, 0)) (uB BK259.out)) : gb259 ≠ gb260)); have NB260_259 := Aside0.mk ((by rw [hg]; exact Nat.ne_of_gt (blk_lt (g := gb259) (o := .cells #[.slice A0_0 l0_0.length c0_0] 24 (0, 0)) (uB BK259.out)) : gb260 ≠ gb259)); replace BK259 := cB BK259 hb; clear hb hbox hg; have hnb6 := NB259_260.out; have hnc6 := NB260_259.out; obtain ⟨hcz7_0, hfz7_0⟩ := z1 BK259))
 go_loopg [12] k (fun kq v12 w' => ∃ (x12_1 : Int) (x261000_1 : List (S59)) (u261000 : Value), v12 = .int .i64 x12_1 ∧ Aside0 (shard_Prune.l0 kq a1 l2 l0_0 (l0_0.length : Int) x12_1 x261000_1 = some r) ∧ Aside0 (kq ≤ k) ∧ Aside0 (Kd.S k59 59 w' w.heap.size (fun _ => True) u261000 x261000_1) ∧ Aside0 (w'.heap[gb259]? = some (.cells #[(.slice A0_0 l0_0.length c0_0)] 24 (0, 0))) ∧ Aside0 (w'.heap[gb260]? = some (.cells #[u261000] 24 (0, 0))) ∧ Aside0 (Below w.heap.size w w'))
 case atStart => exact ⟨(0), (([] : List (S59))), (.slice none 0 0), rs_, H', ⟨Nat.le_refl _⟩, ⟨by first | exact Kd.S_nil _ _ _ _ _ | exact Kd.N_nil _ _ _ _ _ | exact Kd.V_nil _ _ _ _ _ | exact Kd.Q_nil _ _ _ _ _ | exact Kd.R_nil _ _ _ _ _⟩, ⟨uB BK259.out⟩, ⟨uB BK260.out⟩, ⟨bl⟩⟩
 case round =>
  clear H'
  try clear c2
  try clear p2
  try clear c6
  try clear hcz7_0
  try clear hfz7_0
  obtain ⟨x12_1, x261000_1, u261000, rfl, HA, HK1, HO_261000, BK259, BK260, HB⟩ := hrel
  cases gk with
  | zero => exact absurd HA.out (by simp [shard_Prune.l0])
  | succ k1 =>
   have H := HA.out
   clear HA
   simp only [shard_Prune.l0] at H
   by_cases c8 : x12_1 < (l0_0.length : Int)
   ·
    rw [if_pos c8] at H
    have c8b0 : decide (x12_1 < (l0_0.length : Int)) = true := decide_eq_true c8
    clear c8
    obtain ⟨c9b0, H⟩ := gdd H
    obtain ⟨c10b0, H⟩ := gdd H
    obtain ⟨t263, A11, H⟩ := bs H
    try dsimp only at H
    by_cases c12 : t263 = true
    ·
     subst c12
     rw [if_pos rfl] at H
     have H' := Aside0.mk H
     clear H
     have p261 : 0 ≤ (x12_1 : Int) := od
     have q261 : x12_1 < (l0_0.length : Int) := od
     obtain ⟨ad261, A261_2, c261_2, e261, hx261_0, hx261_1, hx261_2, hl261_2, hi261_2⟩ := at_T59 HR0_0.out x12_1 p261 q261
     cases e261
     replace hx261_0 := kc HB hx261_0
     replace hx261_1 := kc HB hx261_1
     replace hx261_2 := kc HB hx261_2
     have HR261_2 := Aside0.mk hi261_2
     have HC261_2 := Aside0.mk hl261_2
     clear hi261_2 hl261_2
     replace p261 := eq_true p261
     replace q261 := eq_true q261
     go_wp2_with (first | ((with_reducible refine gate_dst (N := 8) rfl ?_); refine bx (N := 8) #[.int .i64 0, .string (⟨#[]⟩ : ByteArray), .slice none 0 0] 59 ?_; intro gb262 hg w13 hbox hb; replace HO_261000 := Aside0.mk (Kd.S_below (Kd.S_elderB (uS HO_261000.out) gb262 (Nat.le_of_eq hg.symm)) hb); have BK262 := Aside0.mk (hbox); have GW262 := gw hg bl; have GE262 := GW262; replace HB := Aside0.mk (below_step bl hb); have NB259_262 := Aside0.mk ((by rw [hg]; exact Nat.ne_of_lt (blk_lt (g := gb259) (o := .cells #[.slice (some ad261) l0_0.length c0_0] 24 (0, 0)) (uB BK259.out)) : gb259 ≠ gb262)); have NB262_259 := Aside0.mk ((by rw [hg]; exact Nat.ne_of_gt (blk_lt (g := gb259) (o := .cells #[.slice (some ad261) l0_0.length c0_0] 24 (0, 0)) (uB BK259.out)) : gb262 ≠ gb259)); replace BK259 := cB BK259 hb; have NB260_262 := Aside0.mk ((by rw [hg]; exact Nat.ne_of_lt (blk_lt (g := gb260) (o := .cells #[u261000] 24 (0, 0)) (uB BK260.out)) : gb260 ≠ gb262)); have NB262_260 := Aside0.mk ((by rw [hg]; exact Nat.ne_of_gt (blk_lt (g := gb260) (o := .cells #[u261000] 24 (0, 0)) (uB BK260.out)) : gb262 ≠ gb260)); replace BK260 := cB BK260 hb; clear hb hbox hg; have hnb14 := NB262_259.out; have hnc14 := NB259_262.out; have hnb15 := NB262_260.out; have hnc15 := NB260_262.out; obtain ⟨hcz16_0, hcz16_1, hcz16_2, hfz16_0, hfz16_1, hfz16_2⟩ := z3 BK262) | (refine gL (some 20) rfl Try.func35 #[.slice A2 l2.length c2, .int .i64 ((rd_T59 l0_0 x12_1).f0), .int .i64 a1] ?_; (with_reducible refine (shard_dropped.calls _ _ l2 ((rd_T59 l0_0 x12_1).f0) a1 true _ ?side1 ?side2 A11.out).mono ?_); (case side1 => exact Kd.C_below HR2.out bl); (case side2 => exact HC2.out); rintro e w17 ⟨rfl, hb⟩; refine ⟨_, rfl, ?_⟩; replace HO_261000 := Aside0.mk (Kd.S_below (by exact uS <| (Kd.S_mono (Kd.S_far (p := ⟨gb262, 2, none⟩) (Kd.S_far (p := ⟨gb262, 1, none⟩) (Kd.S_far (p := ⟨gb262, 0, none⟩) (Kd.S_mono HO_261000.out (fun k_ hk => (⟨hk, hk.2⟩ : _ ∧ k_ ≠ gb262))) (fun _ hk => hk.2) (.int .i64 ((rd_T59 l0_0 x12_1).f0))) (fun _ hk => hk.2) (.string ((rd_T59 l0_0 x12_1).f1))) (fun _ hk => hk.2) (.slice A261_2 ((rd_T59 l0_0 x12_1).f2).length c261_2)) (fun _ h_ => h_.1))) hb); replace BK259 := Aside0.mk (blk_below (g := gb259) (o := .cells #[.slice (some ad261) l0_0.length c0_0] 24 (0, 0)) (by (with_reducible repeat (first | refine blk_drewN ?_ _ | refine blk_drew ?_ | refine blk_alloc ?_ _)); refine blk_far ?_ NB259_262.out _; (with_reducible repeat (first | refine blk_drewN ?_ _ | refine blk_drew ?_ | refine blk_alloc ?_ _)); refine blk_far ?_ NB259_262.out _; (with_reducible repeat (first | refine blk_drewN ?_ _ | refine blk_drew ?_ | refine blk_alloc ?_ _)); refine blk_far ?_ NB259_262.out _; exact uB <| BK259.out) hb); replace BK260 := Aside0.mk (blk_below (g := gb260) (o := .cells #[u261000] 24 (0, 0)) (by (with_reducible repeat (first | refine blk_drewN ?_ _ | refine blk_drew ?_ | refine blk_alloc ?_ _)); refine blk_far ?_ NB260_262.out _; (with_reducible repeat (first | refine blk_drewN ?_ _ | refine blk_drew ?_ | refine blk_alloc ?_ _)); refine blk_far ?_ NB260_262.out _; (with_reducible repeat (first | refine blk_drewN ?_ _ | refine blk_drew ?_ | refine blk_alloc ?_ _)); refine blk_far ?_ NB260_262.out _; exact uB <| BK260.out) hb); replace BK262 := Aside0.mk (blk_below (g := gb262) (o := .cells #[.int .i64 ((rd_T59 l0_0 x12_1).f0), .string ((rd_T59 l0_0 x12_1).f1), .slice A261_2 ((rd_T59 l0_0 x12_1).f2).length c261_2] 59 (0, 0)) (by (with_reducible repeat (first | refine blk_drewN ?_ _ | refine blk_drew ?_ | refine blk_alloc ?_ _)); refine blk_put (cs := #[.int .i64 ((rd_T59 l0_0 x12_1).f0), .string ((rd_T59 l0_0 x12_1).f1), .slice none 0 0]) ?_ 2 _ rfl; (with_reducible repeat (first | refine blk_drewN ?_ _ | refine blk_drew ?_ | refine blk_alloc ?_ _)); refine blk_put (cs := #[.int .i64 ((rd_T59 l0_0 x12_1).f0), .string (⟨#[]⟩ : ByteArray), .slice none 0 0]) ?_ 1 _ rfl; (with_reducible repeat (first | refine blk_drewN ?_ _ | refine blk_drew ?_ | refine blk_alloc ?_ _)); refine blk_put (cs := #[.int .i64 0, .string (⟨#[]⟩ : ByteArray), .slice none 0 0]) ?_ 0 _ rfl; exact uB <| BK262.out) hb); replace HB := Aside0.mk (below_step bl hb); (try clear hb)))
     go_roundg k1
     case measure => have := HK1.out; omega
     case rel => exact ⟨(wrap64 (x12_1 + 1)), (x261000_1), (u261000), rs_, H', ⟨by have := HK1.out; omega⟩, ⟨by exact uS <| Kd.S_mono HO_261000.out (fun _ hk => trivial)⟩, ⟨uB BK259.out⟩, ⟨uB BK260.out⟩, ⟨bl⟩⟩
    ·
     replace c12 := Bool.eq_false_iff.mpr c12
     subst c12
     rw [if_neg (show ¬ (false = true) by decide)] at H
     obtain ⟨t264, A18, H⟩ := bs H
     try dsimp only at H
     obtain ⟨c19, H⟩ := gd H
     have LMc19 := Aside0.mk c19
     clear c19
     obtain ⟨y267, hy267⟩ : ∃ y_ : List (S59), y_ = (x261000_1 ++ [(⟨(rd_T59 l0_0 x12_1).f0, (rd_T59 l0_0 x12_1).f1, t264⟩ : S59)]) := ⟨_, rfl⟩
     replace H : (shard_Prune.l0 k1 a1 l2 l0_0 (l0_0.length : Int) (wrap64 (x12_1 + 1)) y267) = some r := by first | (rw [hy267]; with_reducible exact H) | (have H2_ := (Option.bind_some _ _).symm.trans H; rw [hy267]; with_reducible exact H2_) | (have H2_ := (Option.bind_some _ _).symm.trans H; with_reducible exact H2_) | with_reducible exact H | (rw [hy267]; exact H) | exact H
     have Ny267 := Aside0.mk hy267
     clear hy267
     have H' := Aside0.mk H
     clear H
     have p261 : 0 ≤ (x12_1 : Int) := od
     have q261 : x12_1 < (l0_0.length : Int) := od
     obtain ⟨ad261, A261_2, c261_2, e261, hx261_0, hx261_1, hx261_2, hl261_2, hi261_2⟩ := at_T59 HR0_0.out x12_1 p261 q261
     cases e261
     replace hx261_0 := kc HB hx261_0
     replace hx261_1 := kc HB hx261_1
     replace hx261_2 := kc HB hx261_2
     have HR261_2 := Aside0.mk hi261_2
     have HC261_2 := Aside0.mk hl261_2
     clear hi261_2 hl261_2
     replace p261 := eq_true p261
     replace q261 := eq_true q261
     go_wp2_with (first | ((with_reducible refine gate_dst (N := 8) rfl ?_); refine bx (N := 8) #[.int .i64 0, .string (⟨#[]⟩ : ByteArray), .slice none 0 0] 59 ?_; intro gb262 hg w20 hbox hb; replace HO_261000 := Aside0.mk (Kd.S_below (Kd.S_elderB (uS HO_261000.out) gb262 (Nat.le_of_eq hg.symm)) hb); have BK262 := Aside0.mk (hbox); have GW262 := gw hg bl; have GE262 := GW262; replace HB := Aside0.mk (below_step bl hb); have NB259_262 := Aside0.mk ((by rw [hg]; exact Nat.ne_of_lt (blk_lt (g := gb259) (o := .cells #[.slice (some ad261) l0_0.length c0_0] 24 (0, 0)) (uB BK259.out)) : gb259 ≠ gb262)); have NB262_259 := Aside0.mk ((by rw [hg]; exact Nat.ne_of_gt (blk_lt (g := gb259) (o := .cells #[.slice (some ad261) l0_0.length c0_0] 24 (0, 0)) (uB BK259.out)) : gb262 ≠ gb259)); replace BK259 := cB BK259 hb; have NB260_262 := Aside0.mk ((by rw [hg]; exact Nat.ne_of_lt (blk_lt (g := gb260) (o := .cells #[u261000] 24 (0, 0)) (uB BK260.out)) : gb260 ≠ gb262)); have NB262_260 := Aside0.mk ((by rw [hg]; exact Nat.ne_of_gt (blk_lt (g := gb260) (o := .cells #[u261000] 24 (0, 0)) (uB BK260.out)) : gb262 ≠ gb260)); replace BK260 := cB BK260 hb; clear hb hbox hg; have hnb21 := NB262_259.out; have hnc21 := NB259_262.out; have hnb22 := NB262_260.out; have hnc22 := NB260_262.out; obtain ⟨hcz23_0, hcz23_1, hcz23_2, hfz23_0, hfz23_1, hfz23_2⟩ := z3 BK262) | (refine gL (some 20) rfl Try.func35 #[.slice A2 l2.length c2, .int .i64 ((rd_T59 l0_0 x12_1).f0), .int .i64 a1] ?_; (with_reducible refine (shard_dropped.calls _ _ l2 ((rd_T59 l0_0 x12_1).f0) a1 false _ ?side1 ?side2 A11.out).mono ?_); (case side1 => exact Kd.C_below HR2.out bl); (case side2 => exact HC2.out); rintro e w24 ⟨rfl, hb⟩; refine ⟨_, rfl, ?_⟩; replace HO_261000 := Aside0.mk (Kd.S_below (by exact uS <| (Kd.S_mono (Kd.S_far (p := ⟨gb262, 2, none⟩) (Kd.S_far (p := ⟨gb262, 1, none⟩) (Kd.S_far (p := ⟨gb262, 0, none⟩) (Kd.S_mono HO_261000.out (fun k_ hk => (⟨hk, hk.2⟩ : _ ∧ k_ ≠ gb262))) (fun _ hk => hk.2) (.int .i64 ((rd_T59 l0_0 x12_1).f0))) (fun _ hk => hk.2) (.string ((rd_T59 l0_0 x12_1).f1))) (fun _ hk => hk.2) (.slice A261_2 ((rd_T59 l0_0 x12_1).f2).length c261_2)) (fun _ h_ => h_.1))) hb); replace BK259 := Aside0.mk (blk_below (g := gb259) (o := .cells #[.slice (some ad261) l0_0.length c0_0] 24 (0, 0)) (by (with_reducible repeat (first | refine blk_drewN ?_ _ | refine blk_drew ?_ | refine blk_alloc ?_ _)); refine blk_far ?_ NB259_262.out _; (with_reducible repeat (first | refine blk_drewN ?_ _ | refine blk_drew ?_ | refine blk_alloc ?_ _)); refine blk_far ?_ NB259_262.out _; (with_reducible repeat (first | refine blk_drewN ?_ _ | refine blk_drew ?_ | refine blk_alloc ?_ _)); refine blk_far ?_ NB259_262.out _; exact uB <| BK259.out) hb); replace BK260 := Aside0.mk (blk_below (g := gb260) (o := .cells #[u261000] 24 (0, 0)) (by (with_reducible repeat (first | refine blk_drewN ?_ _ | refine blk_drew ?_ | refine blk_alloc ?_ _)); refine blk_far ?_ NB260_262.out _; (with_reducible repeat (first | refine blk_drewN ?_ _ | refine blk_drew ?_ | refine blk_alloc ?_ _)); refine blk_far ?_ NB260_262.out _; (with_reducible repeat (first | refine blk_drewN ?_ _ | refine blk_drew ?_ | refine blk_alloc ?_ _)); refine blk_far ?_ NB260_262.out _; exact uB <| BK260.out) hb); replace BK262 := Aside0.mk (blk_below (g := gb262) (o := .cells #[.int .i64 ((rd_T59 l0_0 x12_1).f0), .string ((rd_T59 l0_0 x12_1).f1), .slice A261_2 ((rd_T59 l0_0 x12_1).f2).length c261_2] 59 (0, 0)) (by (with_reducible repeat (first | refine blk_drewN ?_ _ | refine blk_drew ?_ | refine blk_alloc ?_ _)); refine blk_put (cs := #[.int .i64 ((rd_T59 l0_0 x12_1).f0), .string ((rd_T59 l0_0 x12_1).f1), .slice none 0 0]) ?_ 2 _ rfl; (with_reducible repeat (first | refine blk_drewN ?_ _ | refine blk_drew ?_ | refine blk_alloc ?_ _)); refine blk_put (cs := #[.int .i64 ((rd_T59 l0_0 x12_1).f0), .string (⟨#[]⟩ : ByteArray), .slice none 0 0]) ?_ 1 _ rfl; (with_reducible repeat (first | refine blk_drewN ?_ _ | refine blk_drew ?_ | refine blk_alloc ?_ _)); refine blk_put (cs := #[.int .i64 0, .string (⟨#[]⟩ : ByteArray), .slice none 0 0]) ?_ 0 _ rfl; exact uB <| BK262.out) hb); replace HB := Aside0.mk (below_step bl hb); (try clear hb); obtain ⟨hcz25_0, hcz25_1, hcz25_2, hfz25_0, hfz25_1, hfz25_2⟩ := z3 BK262) | (refine gL (some 25) rfl Try.func40 #[.slice A261_2 ((rd_T59 l0_0 x12_1).f2).length c261_2, .int .i64 a1] ?_; (with_reducible refine (chain_Prune.calls k1 _ _ ((rd_T59 l0_0 x12_1).f2) a1 t264 _ ?side1 ?side2 A18.out).mono ?_); (case side1 => exact uC <| (Kd.C_below HR261_2.out HB.out)); (case side2 => exact HC261_2.out); rintro e w26 ⟨v265, rfl, ho0, hb⟩; refine ⟨_, rfl, ?_⟩; replace HO_261000 := Aside0.mk (Kd.S_elder' (uS HO_261000.out) (Kd.R_base ho0) hb); have HO266 := Aside0.mk (Kd.R_lower ho0 (below_size bl)); replace BK259 := cB BK259 hb; replace BK260 := cB BK260 hb; replace BK262 := cB BK262 hb; replace HB := Aside0.mk (below_step bl hb); (try clear hb); (try clear ho0); obtain ⟨Ao27, co27, eo27⟩ := Kd.R_slice HO266.out; subst eo27; obtain ⟨hcz28_0, hcz28_1, hcz28_2, hfz28_0, hfz28_1, hfz28_2⟩ := z3 BK262) | ((with_reducible refine gate_store (t := 57) (p := 26) rfl ?_); refine store_event (t := 57) (p := 26) (v := ?vo_w29) (w1 := (w26.setCell ⟨gb262, 2, none⟩ (.slice Ao27 t264.length co27))) ?hg ?ho ?hn ?hr ?_; (case ho => rfl); (case hg => rfl); (case hn => rfl); (case hr => first | (go_simp; done) | (go_simp; rfl)); intro w29 hw; have n0_ : Aside0 (Kd.S k59 59 w29 w.heap.size (fun k_ => some k_ ≠ (.slice Ao27 t264.length co27 : Value).ownBlock ∧ k_ ≠ gb262) u261000 x261000_1) := ⟨(by rw [hw]; exact (by exact uS <| Kd.S_mono (Kd.S_far (p := ⟨gb262, 2, none⟩) (Kd.S_mono HO_261000.out (fun k_ hk => (⟨hk, hk.1.2⟩ : _ ∧ k_ ≠ gb262))) (fun _ hk => hk.2) (.slice Ao27 t264.length co27)) (fun _ hk => ⟨hk.1.2, hk.1.1.2⟩)))⟩; have n1_ : Aside0 (Kd.R k82 82 w29 w.heap.size (fun _ => True) (.slice Ao27 t264.length co27) t264) := ⟨(by rw [hw]; exact (by exact uR <| Kd.R_mono (Kd.R_far (p := ⟨gb262, 2, none⟩) (Kd.R_types HO266.out BK262.out (by decide)) (fun _ hk => hk.2) (.slice Ao27 t264.length co27)) (fun _ hk => trivial)))⟩; have n2_ : Aside0 (w29.heap[gb259]? = some (.cells #[.slice (some ad261) l0_0.length c0_0] 24 (0, 0))) := ⟨(by rw [hw]; exact (by (with_reducible repeat (first | refine blk_drewN ?_ _ | refine blk_drew ?_ | refine blk_alloc ?_ _)); refine blk_far ?_ NB259_262.out _; exact uB <| BK259.out))⟩; have n3_ : Aside0 (w29.heap[gb260]? = some (.cells #[u261000] 24 (0, 0))) := ⟨(by rw [hw]; exact (by (with_reducible repeat (first | refine blk_drewN ?_ _ | refine blk_drew ?_ | refine blk_alloc ?_ _)); refine blk_far ?_ NB260_262.out _; exact uB <| BK260.out))⟩; have n4_ : Aside0 (w29.heap[gb262]? = some (.cells #[.int .i64 ((rd_T59 l0_0 x12_1).f0), .string ((rd_T59 l0_0 x12_1).f1), .slice Ao27 t264.length co27] 59 (0, 0))) := ⟨(by rw [hw]; exact (by (with_reducible repeat (first | refine blk_drewN ?_ _ | refine blk_drew ?_ | refine blk_alloc ?_ _)); refine blk_put (cs := #[.int .i64 ((rd_T59 l0_0 x12_1).f0), .string ((rd_T59 l0_0 x12_1).f1), .slice A261_2 ((rd_T59 l0_0 x12_1).f2).length c261_2]) ?_ 2 _ rfl; exact uB <| BK262.out))⟩; have n5_ : Aside0 (Below w.heap.size w w29) := ⟨(by rw [hw]; exact bl)⟩; clear hw; clear HO_261000; clear HO266; clear BK259; clear BK260; clear BK262; clear HB; have HO_261000 := n0_; have HO266 := n1_; have BK259 := n2_; have BK260 := n3_; have BK262 := n4_; have HB := n5_; clear n0_ n1_ n2_ n3_ n4_ n5_; have hnb30 := NB260_259.out; have hnc30 := NB259_260.out; obtain ⟨hcz31_0, hfz31_0⟩ := z1 BK260; obtain ⟨hcz32_0, hcz32_1, hcz32_2, hfz32_0, hfz32_1, hfz32_2⟩ := z3 BK262) | ((with_reducible refine gate_builtin (b := .append) (xs := #[.tmp 28, .tmp 30]) rfl ?_); at_builtin; refine Kd.S_append k59 (w0 := w) w.heap.size rfl (.tmp 28) (.tmp 30) 22 59 (.agg #[(.int .i64 0), (.string ⟨#[]⟩), (.slice none 0 0)]) 48 rfl Try.underlying22 info59 rfl (by decide) (by omega) u261000 x261000_1 (⟨(rd_T59 l0_0 x12_1).f0, (rd_T59 l0_0 x12_1).f1, t264⟩ : S59) [.int .i64 ((rd_T59 l0_0 x12_1).f0), .string ((rd_T59 l0_0 x12_1).f1), .slice Ao27 t264.length co27] (fun k_ => k_ ≠ gb262) (fun k_ => some k_ = (.slice Ao27 t264.length co27 : Value).ownBlock) rfl rfl ?aP (fun k_ hk_ => ((Kd.R_mono (ok' := fun k_ => ((fun k_ => k_ ≠ gb262)) k_ ∧ some k_ ≠ (u261000 : Value).ownBlock) (Kd.R_types (Kd.R_apart' (HO266.out) (Kd.S_typed HO_261000.out) (by decide)) BK262.out (by decide)) (fun k_ hk => ⟨hk.2, hk.1.2⟩))).1 k_ hk_.symm) ?aF ?aO ?aB ?aS ?aL ?_; (case aP => exact k59_mkM _ _ _ (⟨(rd_T59 l0_0 x12_1).f0, (rd_T59 l0_0 x12_1).f1, t264⟩ : S59) (Kd.R_mono (Kd.R_tight rfl (Kd.R_mono (ok' := fun k_ => ((fun k_ => k_ ≠ gb262)) k_ ∧ some k_ ≠ (u261000 : Value).ownBlock) (Kd.R_types (Kd.R_apart' (HO266.out) (Kd.S_typed HO_261000.out) (by decide)) BK262.out (by decide)) (fun k_ hk => ⟨hk.2, hk.1.2⟩))) (fun _ h_ => h_))); (case aB => exact bl); (case aF => exact (fun k_ hk => Kd.freshB (g := gb262) (o := .cells #[.int .i64 ((rd_T59 l0_0 x12_1).f0), .string ((rd_T59 l0_0 x12_1).f1), .slice Ao27 t264.length co27] 59 (0, 0)) (uB BK262.out) k_ hk)); (case aO => exact (by exact uS <| Kd.S_mono HO_261000.out (fun k_ hk => ⟨hk.2, fun e_ => hk.1 e_⟩))); (case aS => exact (below_size bl)); (case aL => have := LMc19.out; omega); intro v268 w33 ho hb hg hat; rw [← Ny267.out] at ho; replace BK259 := Aside0.mk (blk_grown (g := gb259) (o := .cells #[.slice (some ad261) l0_0.length c0_0] 24 (0, 0)) (uB BK259.out) hg (Kd.S_ne HO_261000.out BK259.out (by decide))); replace BK260 := Aside0.mk (blk_grown (g := gb260) (o := .cells #[u261000] 24 (0, 0)) (uB BK260.out) hg (Kd.S_ne HO_261000.out BK260.out (by decide))); replace BK262 := Aside0.mk (blk_grown (g := gb262) (o := .cells #[.int .i64 ((rd_T59 l0_0 x12_1).f0), .string ((rd_T59 l0_0 x12_1).f1), .slice Ao27 t264.length co27] 59 (0, 0)) (uB BK262.out) hg (Kd.S_away HO_261000.out (fun _ hk => hk.2))); replace HB := Aside0.mk (hb); have HO269 := Aside0.mk (ho); clear HO_261000; clear HO266; clear ho hb hg hat; obtain ⟨Ao34, co34, eo34⟩ := Kd.S_slice HO269.out; subst eo34; obtain ⟨hcz35_0, hfz35_0⟩ := z1 BK260))
     go_roundg k1
     case measure => have := HK1.out; omega
     case rel => exact ⟨(wrap64 (x12_1 + 1)), (y267), (.slice Ao34 y267.length co34), rs_, H', ⟨by have := HK1.out; omega⟩, ⟨by exact uS <| Kd.S_mono (Kd.S_far (p := ⟨gb260, 0, none⟩) (Kd.S_types HO269.out BK260.out (by decide)) (fun _ hk => hk.2) (.slice Ao34 y267.length co34)) (fun _ hk => trivial)⟩, ⟨by (with_reducible repeat (first | refine blk_drewN ?_ _ | refine blk_drew ?_ | refine blk_alloc ?_ _)); refine blk_far ?_ NB259_260.out _; exact uB <| BK259.out⟩, ⟨by (with_reducible repeat (first | refine blk_drewN ?_ _ | refine blk_drew ?_ | refine blk_alloc ?_ _)); refine blk_put (cs := #[u261000]) ?_ 0 _ rfl; exact uB <| BK260.out⟩, ⟨bl⟩⟩
   ·
    rw [if_neg c8] at H
    have c8b0 : decide (x12_1 < (l0_0.length : Int)) = false := decide_eq_false c8
    clear c8
    obtain rfl := Option.some.inj H
    have hnb36 := NB260_259.out
    have hnc36 := NB259_260.out
    obtain ⟨hcz37_0, hfz37_0⟩ := z1 BK260
    obtain ⟨Ao38, co38, eo38⟩ := Kd.S_slice HO_261000.out
    subst eo38
    go_wp2
    refine bodyPost_ret (results_cell_row rfl _ _ gb260 24 #[.slice Ao38 x261000_1.length co38] (0, 0) _ rfl (by (with_reducible repeat (first | refine blk_drewN ?_ _ | refine blk_drew ?_ | refine blk_alloc ?_ _)); refine blk_put (cs := #[.slice Ao38 x261000_1.length co38]) ?_ 0 _ rfl; exact uB <| BK260.out) Try.underlying24 rfl (by kernel_rfl)) rfl ?_
    exact ⟨_, re_, by exact uS <| Kd.S_mono (Kd.S_far (p := ⟨gb260, 0, none⟩) (Kd.S_types HO_261000.out BK260.out (by decide)) (fun _ hk => hk.2) (.slice Ao38 x261000_1.length co38)) (fun _ hk => trivial), bl⟩
def api_Version_57.l0 : Nat → List (S82) → List (S82) → Int → Int → Option (Bool)
 | 0, _, _, _, _ => none
 | k + 1, x0, x1, x12, x13 => if x13 < x12 then (if 0 ≤ x13 then (if x13 < (x0.length : Int) then (if x13 < (x1.length : Int) then (if (!(((rd_T82 x0 x13).f0) == ((rd_T82 x1 x13).f0)) || ((!(((rd_T82 x0 x13).f1.f0) == ((rd_T82 x1 x13).f1.f0)) || ((!(((rd_T82 x0 x13).f1.f1.f0) == ((rd_T82 x1 x13).f1.f1.f0)) || (!(((rd_T82 x0 x13).f1.f1.f1) == ((rd_T82 x1 x13).f1.f1.f1)))) || (!(((rd_T82 x0 x13).f1.f2) == ((rd_T82 x1 x13).f1.f2)) || (!(((rd_T82 x0 x13).f1.f3) == ((rd_T82 x1 x13).f1.f3)))))))) = true then (some false) else (api_Version_57.l0 k x0 x1 x12 (wrap64 (x13 + 1)))) else (none)) else (none)) else (none)) else (some true)
def api_Version_57.f (k : Nat) (l0 : List (S82)) (l1 : List (S82)) : Option (Bool) := if (l0.length : Int) = (l1.length : Int) then (api_Version_57.l0 k l0 l1 (l0.length : Int) 0) else (some false)
theorem api_Version_57.mono_l : ∀ k, (∀ y0 y1 y2 y3, LeC (api_Version_57.l0 k y0 y1 y2 y3) (api_Version_57.l0 (k + 1) y0 y1 y2 y3))
 | 0 => fun _ _ _ _ => ⟨fun r h => by simp [api_Version_57.l0] at h⟩
 | k + 1 => by have ih0 := api_Version_57.mono_l k; exact fun _ _ _ _ => by unfold api_Version_57.l0; exact lm
theorem api_Version_57.mono : ∀ a0 a1 k, LeO (api_Version_57.f k a0 a1) (api_Version_57.f (k + 1) a0 a1) := by
 intro a0 a1 k
 have ih0 := api_Version_57.mono_l k
 unfold api_Version_57.f
 exact lo
instance api_Version_57.mI {a0 a1 k} : LeC (api_Version_57.f k a0 a1) (api_Version_57.f (k + 1) a0 a1) := ⟨api_Version_57.mono _ _ _⟩
theorem api_Version_57.calls (k : Nat) (A0 : Option Addr) (c0 : Nat) (l0 : List (S82)) (A1 : Option Addr) (c1 : Nat) (l1 : List (S82)) (r : Bool) (w : World) (hr0 : Kd.C k82 w A0 l0.length l0) (hc0 : l0.length ≤ c0) (hr1 : Kd.C k82 w A1 l1.length l1) (hc1 : l1.length ≤ c1) (h : api_Version_57.f k l0 l1 = some r) :
 Calls Try.prog 57 #[.slice A0 l0.length c0, .slice A1 l1.length c1] w fun e w' => e = .returned (.bool r) ∧ Drawn0 w w' := by
 have hu82 := Try.underlying82
 have HR0 := Aside0.mk hr0
 have HC0 := Aside0.mk hc0
 clear hr0 hc0
 have HR1 := Aside0.mk hr1
 have HC1 := Aside0.mk hc1
 clear hr1 hc1
 have H : (if (l0.length : Int) = (l1.length : Int) then (api_Version_57.l0 k l0 l1 (l0.length : Int) 0) else (some false)) = some r := h
 clear h
 by_cases c3 : (l0.length : Int) = (l1.length : Int)
 ·
  rw [if_pos c3] at H
  have c3b0 : ((l0.length : Int) == (l1.length : Int)) = true := beq_iff_eq.mpr c3
  have c3b1 : ((l0.length : Int) != (l1.length : Int)) = false := bne_eq_false_iff_eq.mpr c3
  have c3b2 : (l0.length == l1.length) = true := by first | simpa using c3 | (simp at c3 ⊢; omega)
  clear c3
  have H' := Aside0.mk H
  clear H
  go_enter Try.func57, Try.ntmps57
  go_wp2
  repeat (go_quiet (fail); try go_wp2)
  go_loopg [13] k (fun kq v13 w' => ∃ (x13_1 : Int), v13 = .int .i64 x13_1 ∧ Aside0 (api_Version_57.l0 kq l0 l1 (l0.length : Int) x13_1 = some r) ∧ Aside0 (kq ≤ k) ∧ Drawn0 w w')
  case atStart => exact ⟨(0), rs_, H', ⟨Nat.le_refl _⟩, dr_⟩
  case round =>
   clear H'
   try clear c1
   try clear p2
   try clear c3
   try clear c3b0
   try clear c3b1
   try clear c3b2
   obtain ⟨x13_1, rfl, HA, HK1, ⟨m1, rfl⟩⟩ := hrel
   cases gk with
   | zero => exact absurd HA.out (by simp [api_Version_57.l0])
   | succ k1 =>
    have H := HA.out
    clear HA
    simp only [api_Version_57.l0] at H
    by_cases c4 : x13_1 < (l0.length : Int)
    ·
     rw [if_pos c4] at H
     have c4b0 : decide (x13_1 < (l0.length : Int)) = true := decide_eq_true c4
     clear c4
     obtain ⟨c5b0, H⟩ := gdd H
     obtain ⟨c6b0, H⟩ := gdd H
     obtain ⟨c7b0, H⟩ := gdd H
     by_cases c8 : (!(((rd_T82 l0 x13_1).f0) == ((rd_T82 l1 x13_1).f0)) || ((!(((rd_T82 l0 x13_1).f1.f0) == ((rd_T82 l1 x13_1).f1.f0)) || ((!(((rd_T82 l0 x13_1).f1.f1.f0) == ((rd_T82 l1 x13_1).f1.f1.f0)) || (!(((rd_T82 l0 x13_1).f1.f1.f1) == ((rd_T82 l1 x13_1).f1.f1.f1)))) || (!(((rd_T82 l0 x13_1).f1.f2) == ((rd_T82 l1 x13_1).f1.f2)) || (!(((rd_T82 l0 x13_1).f1.f3) == ((rd_T82 l1 x13_1).f1.f3)))))))) = true
     ·
      rw [if_pos c8] at H
      have c8b0 : (!(((rd_T82 l0 x13_1).f0) == ((rd_T82 l1 x13_1).f0)) || ((!(((rd_T82 l0 x13_1).f1.f0) == ((rd_T82 l1 x13_1).f1.f0)) || ((!(((rd_T82 l0 x13_1).f1.f1.f0) == ((rd_T82 l1 x13_1).f1.f1.f0)) || (!(((rd_T82 l0 x13_1).f1.f1.f1) == ((rd_T82 l1 x13_1).f1.f1.f1)))) || (!(((rd_T82 l0 x13_1).f1.f2) == ((rd_T82 l1 x13_1).f1.f2)) || (!(((rd_T82 l0 x13_1).f1.f3) == ((rd_T82 l1 x13_1).f1.f3)))))))) = true := c8
      clear c8
      obtain rfl := Option.some.inj H
      have p270 : 0 ≤ (x13_1 : Int) := od
      have q270 : x13_1 < (l0.length : Int) := od
      obtain ⟨ad270, e270, hx270_0, hx270_1, hx270_2, hx270_3, hx270_4, hx270_5⟩ := at_T82 HR0.out x13_1 p270 q270
      cases e270
      replace p270 := eq_true p270
      replace q270 := eq_true q270
      have p271 : 0 ≤ (x13_1 : Int) := od
      have q271 : x13_1 < (l1.length : Int) := od
      obtain ⟨ad271, e271, hx271_0, hx271_1, hx271_2, hx271_3, hx271_4, hx271_5⟩ := at_T82 HR1.out x13_1 p271 q271
      cases e271
      replace p271 := eq_true p271
      replace q271 := eq_true q271
      go_wp2
      repeat (go_quiet (fail); try go_wp2)
      go_ret
      exact ⟨rs_, dr_⟩
     ·
      rw [if_neg c8] at H
      have c8b0 : (!(((rd_T82 l0 x13_1).f0) == ((rd_T82 l1 x13_1).f0)) || ((!(((rd_T82 l0 x13_1).f1.f0) == ((rd_T82 l1 x13_1).f1.f0)) || ((!(((rd_T82 l0 x13_1).f1.f1.f0) == ((rd_T82 l1 x13_1).f1.f1.f0)) || (!(((rd_T82 l0 x13_1).f1.f1.f1) == ((rd_T82 l1 x13_1).f1.f1.f1)))) || (!(((rd_T82 l0 x13_1).f1.f2) == ((rd_T82 l1 x13_1).f1.f2)) || (!(((rd_T82 l0 x13_1).f1.f3) == ((rd_T82 l1 x13_1).f1.f3)))))))) = false := by simpa using c8
      clear c8
      have H' := Aside0.mk H
      clear H
      have p270 : 0 ≤ (x13_1 : Int) := od
      have q270 : x13_1 < (l0.length : Int) := od
      obtain ⟨ad270, e270, hx270_0, hx270_1, hx270_2, hx270_3, hx270_4, hx270_5⟩ := at_T82 HR0.out x13_1 p270 q270
      cases e270
      replace p270 := eq_true p270
      replace q270 := eq_true q270
      have p271 : 0 ≤ (x13_1 : Int) := od
      have q271 : x13_1 < (l1.length : Int) := od
      obtain ⟨ad271, e271, hx271_0, hx271_1, hx271_2, hx271_3, hx271_4, hx271_5⟩ := at_T82 HR1.out x13_1 p271 q271
      cases e271
      replace p271 := eq_true p271
      replace q271 := eq_true q271
      go_wp2
      repeat (go_quiet (fail); try go_wp2)
      go_roundg k1
      case measure => have := HK1.out; omega
      case rel => exact ⟨(wrap64 (x13_1 + 1)), rs_, H', ⟨by have := HK1.out; omega⟩, dr_⟩
    ·
     rw [if_neg c4] at H
     have c4b0 : decide (x13_1 < (l0.length : Int)) = false := decide_eq_false c4
     clear c4
     obtain rfl := Option.some.inj H
     go_wp2
     repeat (go_quiet (fail); try go_wp2)
     go_ret
     exact ⟨rs_, dr_⟩
 ·
  rw [if_neg c3] at H
  have c3b0 : ((l0.length : Int) == (l1.length : Int)) = false := beq_eq_false_iff_ne.mpr c3
  have c3b1 : ((l0.length : Int) != (l1.length : Int)) = true := bne_iff_ne.mpr c3
  have c3b2 : (l0.length == l1.length) = false := by first | simpa using c3 | (simp at c3 ⊢; omega)
  obtain rfl := Option.some.inj H
  go_enter Try.func57, Try.ntmps57
  go_wp2
  repeat (go_quiet (fail); try go_wp2)
  go_ret
  exact ⟨rs_, dr_⟩
end Go.Proofs.Ytofaindjbhmopaa.X
