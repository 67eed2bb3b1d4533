/- Printed by a program of this session's own: what functions of the program compute, and that the machine computes it. -/
import Derived.Test.YtjheajgckpfieaaDoorXx0
import Derived.Test.YtjheajgckpfieaaDoorXx2
import Derived.Test.YtjheajgckpfieaaDoorXx3
namespace Go.Proofs.YtjheajgckpfieaaDoor.X
open Go.RowKit Go.Proofs.YtjheajgckpfieaaDoorW.PrintWords Go.Proofs.YtjheajgckpfieaaDoorW.PrintLast Go.Proofs.YtjheajgckpfieaaDoorW.PrintMore
attribute [local go_sem] max2_int min2_int max_two min_two max_three min_three max_four min_four   -- for this text's walks alone
set_option linter.unusedVariables false
set_option linter.unusedSimpArgs false

/-! ### session_answer: function 22 -/
/-- The closure: is it the answer to the reply that lies in block B? -/
theorem session_answer.clo (B : Nat) (W : World) (x : S50) (A2_ : Option Addr) (c2_ : Nat) (v0 : ByteArray) (v1 v2 v3 : Int) (h0 : W.cell? ⟨B, 0, none⟩ = some (.string v0)) (h1 : W.cell? ⟨B, 1, none⟩ = some (.int .i64 v1)) (h2 : W.cell? ⟨B, 2, none⟩ = some (.int .i64 v2)) (h3 : W.cell? ⟨B, 3, none⟩ = some (.int .i64 v3)) :
    Calls Tryd.prog 29 (#[.agg #[.int .i64 x.f0, .int .i64 x.f1, .slice A2_ x.f2.length c2_]] ++ #[.pointer (some ⟨B, 0, none⟩)]) W fun e w' => e = .returned (.bool (x.f0 == v3)) ∧ Below W.heap.size W w' := by
  have hB : B < W.heap.size := World.block_lt_of_cell? W _ h0
  have hne : B ≠ W.heap.size := by omega
  have hu := Tryd.underlying50
  have hu2 := Tryd.underlying42
  go_enter Tryd.func29, Tryd.ntmps29
  go_wp2
  go_ret
  exact ⟨by first | rfl | simp, (Below.refl _ _).alloc (Nat.le_refl _) _⟩
theorem session_answer.zz {w W : World} {o2 : Obj} {cs : Array Value} {t : TypeId} (hW : Below ((w.alloc (.cells cs t)).alloc o2).heap.size ((w.alloc (.cells cs t)).alloc o2) W) (j : Nat) {v : Value} (hv : cs[j]? = some v) : W.cell? ⟨w.heap.size, j, none⟩ = some v := by
  have h0 : (w.alloc (.cells cs t)).heap[w.heap.size]? = some (.cells cs t) := by
    show (w.heap.push (.cells cs t))[w.heap.size]? = _
    exact Array.getElem?_push_size
  have h1 : ((w.alloc (.cells cs t)).alloc o2).heap[w.heap.size]? = some (.cells cs t) := blk_alloc h0 o2
  have h2 := (blk_cell h1 j).trans hv
  exact (hW.cell (World.block_lt_of_cell? _ _ h2)).trans h2
theorem session_answer.zb {w W : World} {o : Obj} {cs : Array Value} {t : TypeId} (hW : Below ((w.alloc o).alloc (.cells cs t)).heap.size ((w.alloc o).alloc (.cells cs t)) W) : W.heap[w.heap.size + 1]? = some (.cells cs t (0, 0)) := by
  have e : (w.alloc o).heap.size = w.heap.size + 1 := Array.size_push _
  have h1 : ((w.alloc o).alloc (.cells cs t)).heap[(w.alloc o).heap.size]? = some (.cells cs t (0, 0)) := by
    show ((w.alloc o).heap.push (.cells cs t))[(w.alloc o).heap.size]? = _
    exact Array.getElem?_push_size
  rw [e] at h1
  exact blk_below (g := w.heap.size + 1) (o := .cells cs t (0, 0)) h1 hW
theorem session_answer.idx_lt (p : S50 → Bool) : ∀ (l : List (S50)) (i : Nat), api_Answer.idx p l i < (i : Int) + (l.length : Int)
  | [], i => by
    unfold api_Answer.idx
    simp only [List.length_nil]
    omega
  | x :: l, i => by
    have := session_answer.idx_lt p l (i + 1)
    unfold api_Answer.idx
    simp only [List.length_cons]
    split <;> omega
def session_answer.f (k : Nat) (a0_0 : ByteArray) (a0_1 : Int) (a0_2 : Int) (a0_3 : Int) (l1 : List (S50)) : Option (ByteArray × Int × Int × Int) := if a0_1 = 2 then (if api_Answer.idx (fun x => x.f0 == a0_3) l1 0 < 0 then some (a0_0, a0_1, a0_2, a0_3) else ((reply_Rows.f k ((rd_T50 l1 (api_Answer.idx (fun x => x.f0 == a0_3) l1 0)).f0) ((rd_T50 l1 (api_Answer.idx (fun x => x.f0 == a0_3) l1 0)).f1) ((rd_T50 l1 (api_Answer.idx (fun x => x.f0 == a0_3) l1 0)).f2)).bind fun t => some (t, 0, 0, 0))) else some (a0_0, a0_1, a0_2, a0_3)
theorem session_answer.mono : ∀ a0 a1 a2 a3 a4 k, LeO (session_answer.f k a0 a1 a2 a3 a4) (session_answer.f (k + 1) a0 a1 a2 a3 a4) := by
  intro a0 a1 a2 a3 a4 k
  unfold session_answer.f
  repeat' first
  | (with_reducible exact reply_Rows.mono _ _ _ _)
  | (with_reducible exact LeO.refl _)
  | (with_reducible exact LeO.none _)
  | (with_reducible refine LeO.ite ?_ ?_)
  | (with_reducible refine LeO.bind ?_ (fun _ => ?_))
set_option maxHeartbeats 8000000 in
set_option maxRecDepth 100000 in
theorem session_answer.calls (k : Nat) (a0_0 : ByteArray) (a0_1 : Int) (a0_2 : Int) (a0_3 : Int) (A1 : Option Addr) (c1 : Nat) (l1 : List (S50)) (r1 : ByteArray) (r2 : Int) (r3 : Int) (r4 : Int) (w : World) (hr1 : Kd.C k50 w A1 l1.length l1) (hc1 : l1.length ≤ c1) (hL : LD w) (h : session_answer.f k a0_0 a0_1 a0_2 a0_3 l1 = some (r1, r2, r3, r4)) :
    Calls Tryd.prog 22 #[.agg #[.string a0_0, .int .i64 a0_1, .int .i64 a0_2, .int .i64 a0_3], .slice A1 l1.length c1] w fun e w' => e = .returned (.agg #[.string r1, .int .i64 r2, .int .i64 r3, .int .i64 r4]) ∧ Below w.heap.size w w' := by
  unfold session_answer.f at h
  have hu42 := Tryd.underlying42
  have hu50 := Tryd.underlying50
  have HR1 := Aside0.mk hr1
  have HC1 := Aside0.mk hc1
  have HL0 := Aside0.mk hL
  clear hr1 hc1 hL
  by_cases c : a0_1 = 2
  · rw [if_pos c] at h
    have c6b0 : (a0_1 == 2) = true := beq_iff_eq.mpr c
    have c6b1 : (a0_1 != 2) = false := bne_eq_false_iff_eq.mpr c
    clear c
    have eg : ∀ args w, (callFunc 29 args).run Tryd.prog w = .ok (.enter 29 args) w := enters_of Tryd.func29 (by kernel_rfl) rfl
    have hlt := session_answer.idx_lt (fun x => x.f0 == a0_3) l1 0
    obtain ⟨q, hq⟩ : ∃ q, q = api_Answer.idx (fun x => x.f0 == a0_3) l1 0 := ⟨_, rfl⟩
    rw [← hq] at h hlt
    have HQ := Aside0.mk hq
    have HLT := Aside0.mk hlt
    clear hq hlt
    by_cases c2 : q < 0
    · rw [if_pos c2] at h
      simp only [Option.some.injEq, Prod.mk.injEq] at h
      obtain ⟨rfl, rfl, rfl, rfl⟩ := h
      have c7b0 : decide (q < 0) = true := decide_eq_true c2
      clear c2
      go_enter Tryd.func22, Tryd.ntmps22
      go_wp2_with fail
      refine (api_Answer.calls 29 #[.pointer (some ⟨w.heap.size, 0, none⟩)] eg (fun x => x.f0 == a0_3) _ _ l1 _ ?t1 ?t2).mono ?_
      case t1 => exact Kd.C_alloc (Kd.C_alloc HR1.out _) _
      case t2 => exact (fun W x _ hW A2_ c2_ _ _ => session_answer.clo w.heap.size W x A2_ c2_ _ _ _ _ (session_answer.zz hW 0 rfl) (session_answer.zz hW 1 rfl) (session_answer.zz hW 2 rfl) (session_answer.zz hW 3 rfl))
      rintro e w2 ⟨rfl, hb2⟩
      rw [← HQ.out]
      have HB2 := Aside0.mk hb2
      have hz0 : w2.cell? ⟨w.heap.size, 0, none⟩ = some (.string a0_0) := session_answer.zz hb2 0 rfl
      have hz1 : w2.cell? ⟨w.heap.size, 1, none⟩ = some (.int .i64 a0_1) := session_answer.zz hb2 1 rfl
      have hz2 : w2.cell? ⟨w.heap.size, 2, none⟩ = some (.int .i64 a0_2) := session_answer.zz hb2 2 rfl
      have hz3 : w2.cell? ⟨w.heap.size, 3, none⟩ = some (.int .i64 a0_3) := session_answer.zz hb2 3 rfl
      have BK := Aside0.mk (session_answer.zb hb2)
      have hk0 : w2.cell? ⟨w.heap.size + 1, 0, none⟩ = some (.string (⟨#[]⟩ : ByteArray)) := (blk_cell BK.out 0).trans rfl
      have hk1 : w2.cell? ⟨w.heap.size + 1, 1, none⟩ = some (.int .i64 0) := (blk_cell BK.out 1).trans rfl
      have hk2 : w2.cell? ⟨w.heap.size + 1, 2, none⟩ = some (.int .i64 0) := (blk_cell BK.out 2).trans rfl
      have hk3 : w2.cell? ⟨w.heap.size + 1, 3, none⟩ = some (.int .i64 0) := (blk_cell BK.out 3).trans rfl
      have hf0 := blk_frozen BK.out 0
      have hf1 := blk_frozen BK.out 1
      have hf2 := blk_frozen BK.out 2
      have hf3 := blk_frozen BK.out 3
      have HBW := Aside0.mk (show Below w.heap.size w w2 from (below_alloc (below_alloc (Below.refl _ _) _) _).trans (hb2.mono (below_alloc (below_alloc (Below.refl w.heap.size w) _) _).size))
      clear hb2
      go_wp2
      refine bodyPost_ret (results_cell_row rfl _ _ (w.heap.size + 1) 42 #[.string a0_0, .int .i64 a0_1, .int .i64 a0_2, .int .i64 a0_3] (0, 0) _ rfl (by refine blk_put (cs := #[.string a0_0, .int .i64 a0_1, .int .i64 a0_2, .int .i64 0]) ?_ 3 _ rfl; (with_reducible repeat (first | refine blk_drewN ?_ _ | refine blk_drew ?_ | refine blk_alloc ?_ _)); refine blk_put (cs := #[.string a0_0, .int .i64 a0_1, .int .i64 0, .int .i64 0]) ?_ 2 _ rfl; (with_reducible repeat (first | refine blk_drewN ?_ _ | refine blk_drew ?_ | refine blk_alloc ?_ _)); refine blk_put (cs := #[.string a0_0, .int .i64 0, .int .i64 0, .int .i64 0]) ?_ 1 _ rfl; (with_reducible repeat (first | refine blk_drewN ?_ _ | refine blk_drew ?_ | refine blk_alloc ?_ _)); refine blk_put (cs := #[.string (⟨#[]⟩ : ByteArray), .int .i64 0, .int .i64 0, .int .i64 0]) ?_ 0 _ rfl; (with_reducible repeat (first | refine blk_drewN ?_ _ | refine blk_drew ?_ | refine blk_alloc ?_ _)); exact BK.out) Tryd.underlying42 rfl (by kernel_rfl)) rfl ?_
      exact ⟨rfl, by repeat (first | exact HBW.out | apply below_alloc | apply pw_below_drewN | apply below_drew1 | refine below_set ?_ (Nat.le_succ _))⟩
    · rw [if_neg c2] at h
      have c7b0 : decide (q < 0) = false := decide_eq_false c2
      have p0 : 0 ≤ q := by omega
      have q0 : q < (l1.length : Int) := by have := HLT.out; omega
      clear c2
      obtain ⟨t, ht, h⟩ := Option.bind_eq_some_iff.mp h
      simp only [Option.some.injEq, Prod.mk.injEq] at h
      obtain ⟨rfl, rfl, rfl, rfl⟩ := h
      have HT := Aside0.mk ht
      clear ht
      go_enter Tryd.func22, Tryd.ntmps22
      go_wp2_with fail
      refine (api_Answer.calls 29 #[.pointer (some ⟨w.heap.size, 0, none⟩)] eg (fun x => x.f0 == a0_3) _ _ l1 _ ?t1 ?t2).mono ?_
      case t1 => exact Kd.C_alloc (Kd.C_alloc HR1.out _) _
      case t2 => exact (fun W x _ hW A2_ c2_ _ _ => session_answer.clo w.heap.size W x A2_ c2_ _ _ _ _ (session_answer.zz hW 0 rfl) (session_answer.zz hW 1 rfl) (session_answer.zz hW 2 rfl) (session_answer.zz hW 3 rfl))
      rintro e w2 ⟨rfl, hb2⟩
      rw [← HQ.out]
      have HB2 := Aside0.mk (show Below w.heap.size w w2 from (below_alloc (below_alloc (Below.refl _ _) _) _).trans (hb2.mono (below_alloc (below_alloc (Below.refl w.heap.size w) _) _).size))
      have BK := Aside0.mk (session_answer.zb hb2)
      clear hb2
      obtain ⟨ad, A2, c2, e0, hx0, hx1, hx2, hl2, hi2⟩ := at_T50 HR1.out q p0 q0
      cases e0
      replace hx0 := (HB2.out.cell (World.block_lt_of_cell? w _ hx0)).trans hx0
      replace hx1 := (HB2.out.cell (World.block_lt_of_cell? w _ hx1)).trans hx1
      replace hx2 := (HB2.out.cell (World.block_lt_of_cell? w _ hx2)).trans hx2
      have HI := Aside0.mk hi2
      have HC := Aside0.mk hl2
      clear hi2 hl2
      replace p0 := eq_true p0
      replace q0 := eq_true q0
      go_wp2_with (first | (go_at_call 30; (with_reducible refine (reply_Rows.calls k _ _ _ _ _ t _ ?s1 ?s2 ?s3 HT.out).mono ?_); (case s1 => repeat (first | exact (Kd.C_below HI.out HB2.out) | (with_reducible refine Kd.C_alloc ?_ _) | (with_reducible refine Kd.C_drewN ?_ _) | (with_reducible refine Kd.C_drew ?_))); (case s2 => exact HC.out); (case s3 => exact LD.below HL0.out (by repeat (first | exact HB2.out | apply below_alloc | apply pw_below_drewN | apply below_drew1))); rintro e w3 ⟨rfl, hb3⟩; have HB3 := Aside0.mk (below_step (by repeat (first | exact HB2.out | apply below_alloc | apply pw_below_drewN | apply below_drew1)) hb3); have BK3 := Aside0.mk (blk_below (g := w.heap.size + 1) (o := .cells #[.string (⟨#[]⟩ : ByteArray), .int .i64 0, .int .i64 0, .int .i64 0] 42 (0, 0)) (by (with_reducible repeat (first | refine blk_drewN ?_ _ | refine blk_drew ?_ | refine blk_alloc ?_ _)); exact BK.out) hb3); clear hb3; have hk0 : w3.cell? ⟨w.heap.size + 1, 0, none⟩ = some (.string (⟨#[]⟩ : ByteArray)) := (blk_cell BK3.out 0).trans rfl; have hk1 : w3.cell? ⟨w.heap.size + 1, 1, none⟩ = some (.int .i64 0) := (blk_cell BK3.out 1).trans rfl; have hk2 : w3.cell? ⟨w.heap.size + 1, 2, none⟩ = some (.int .i64 0) := (blk_cell BK3.out 2).trans rfl; have hk3 : w3.cell? ⟨w.heap.size + 1, 3, none⟩ = some (.int .i64 0) := (blk_cell BK3.out 3).trans rfl; have hf0 := blk_frozen BK3.out 0; have hf1 := blk_frozen BK3.out 1; have hf2 := blk_frozen BK3.out 2; have hf3 := blk_frozen BK3.out 3))
      refine bodyPost_ret (results_cell_row rfl _ _ (w.heap.size + 1) 42 #[.string t, .int .i64 0, .int .i64 0, .int .i64 0] (0, 0) _ rfl (by refine blk_put (cs := #[.string t, .int .i64 0, .int .i64 0, .int .i64 0]) ?_ 3 _ rfl; (with_reducible repeat (first | refine blk_drewN ?_ _ | refine blk_drew ?_ | refine blk_alloc ?_ _)); refine blk_put (cs := #[.string t, .int .i64 0, .int .i64 0, .int .i64 0]) ?_ 2 _ rfl; (with_reducible repeat (first | refine blk_drewN ?_ _ | refine blk_drew ?_ | refine blk_alloc ?_ _)); refine blk_put (cs := #[.string t, .int .i64 0, .int .i64 0, .int .i64 0]) ?_ 1 _ rfl; (with_reducible repeat (first | refine blk_drewN ?_ _ | refine blk_drew ?_ | refine blk_alloc ?_ _)); refine blk_put (cs := #[.string (⟨#[]⟩ : ByteArray), .int .i64 0, .int .i64 0, .int .i64 0]) ?_ 0 _ rfl; (with_reducible repeat (first | refine blk_drewN ?_ _ | refine blk_drew ?_ | refine blk_alloc ?_ _)); exact BK3.out) Tryd.underlying42 rfl (by kernel_rfl)) rfl ?_
      exact ⟨rfl, by repeat (first | exact HB3.out | apply below_alloc | apply pw_below_drewN | apply below_drew1 | refine below_set ?_ (Nat.le_succ _))⟩
  · rw [if_neg c] at h
    simp only [Option.some.injEq, Prod.mk.injEq] at h
    obtain ⟨rfl, rfl, rfl, rfl⟩ := h
    have c6b0 : (a0_1 == 2) = false := beq_eq_false_iff_ne.mpr c
    have c6b1 : (a0_1 != 2) = true := bne_iff_ne.mpr c
    clear c
    go_enter Tryd.func22, Tryd.ntmps22
    go_wp2
    refine bodyPost_ret (results_cell_row rfl _ _ (w.heap.size + 1) 42 #[.string a0_0, .int .i64 a0_1, .int .i64 a0_2, .int .i64 a0_3] (0, 0) _ rfl (by exact session_answer.zb (Below.refl _ _)) Tryd.underlying42 rfl (by kernel_rfl)) rfl ?_
    exact ⟨rfl, by repeat (first | exact Below.refl _ _ | apply below_alloc | apply pw_below_drewN | apply below_drew1 | refine below_set ?_ (Nat.le_succ _))⟩

end Go.Proofs.YtjheajgckpfieaaDoor.X
