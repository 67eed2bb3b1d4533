/- Printed by a program of this session's own: what functions of the program compute, and that the machine computes it. No condition of its own. -/
import Derived.Test.YteckidchnicjeaaGreatDoorM3
import Derived.Test.YteckidchnicjeaaGreatDoorM4
import Derived.Test.YteckidchnicjeaaGreatDoorM5
import Derived.Test.YteckidchnicjeaaGreatDoorM6
import Derived.Test.YteckidchnicjeaaGreatDoorM7
namespace Go.Proofs.YteckidchnicjeaaGreatDoor.X
open Go.RowKit Go.Proofs.YteckidchnicjeaaGreatDoorW.PrintWords Go.Proofs.YteckidchnicjeaaGreatDoorW.PrintLast Go.Proofs.YteckidchnicjeaaGreatDoorW.PrintMore
attribute [local go_sem] max2_int min2_int max_two min_two max_three min_three max_four min_four
set_option linter.unusedVariables false
set_option linter.unusedSimpArgs false
set_option maxHeartbeats 8000000
set_option maxRecDepth 100000
theorem reply_ReadMessage.catch (p q : Nat) (er y : Int) (x0 x1 x2 x3 x4 : Value) (w : World) (hp : w.heap[p]? = some (.cells #[x0, x1, x2, x3, x4] 36 (0, 0))) (hq : w.heap[q]? = some (.cells #[.int .i64 y] 22 (0, 0))) :
 CallsD Tryz.prog 53 #[.pointer (some ⟨p, 0, none⟩), .pointer (some ⟨q, 0, none⟩)] (.panicking (wr_ er)) w fun e u' w' =>
  e = .returned (.tuple #[]) ∧ u' = .panicking [{ v := .iface 86 (.agg #[.int .i64 er]), recovered := true }] ∧ ∃ w1, Below w.heap.size w w1 ∧ w' = ((((((w1.setCell ⟨p, 0, none⟩ (.int .i64 0)).setCell ⟨p, 1, none⟩ (.int .i64 0)).setCell ⟨p, 2, none⟩ (.int .i64 0)).setCell ⟨p, 3, none⟩ (.slice none 0 0)).setCell ⟨p, 4, none⟩ (.slice none 0 0)).setCell ⟨q, 0, none⟩ (.int .i64 er)) := by
 have hne : p ≠ q := blk_ne hp hq (by decide)
 have hu33 := Tryz.underlying33
 have hu36 := Tryz.underlying36
 refine callsD_of_wpS Tryz.func53 rfl fun c₀ cs hu => ?_
 apply wpS_seq
 apply wpS_region
 simp [wpOpsS, go_sem, recoverD, hu, Tryz.ntmps53, Exit.thenS]
 apply wpS_seq
 apply wpS_region
 simp [wpOpsS, go_sem, Exit.thenS]
 refine wpS_cond (t := true) (by simp [Act.eval, Array.replicate]) ?_
 simp only [if_true]
 refine wpS_of_wp ?_
 go_wp2_with (first | (go_at_call 44; (with_reducible refine (reply_caught.calls er _).mono ?_); rintro e w5 ⟨rfl, hb⟩; have hp5 := blk_below hp hb; have hq5 := blk_below hq hb; have hc0 := (blk_cell hp5 0).trans rfl; have hz0 := blk_frozen hp5 0; have hc1 := (blk_cell hp5 1).trans rfl; have hz1 := blk_frozen hp5 1; have hc2 := (blk_cell hp5 2).trans rfl; have hz2 := blk_frozen hp5 2; have hc3 := (blk_cell hp5 3).trans rfl; have hz3 := blk_frozen hp5 3; have hc4 := (blk_cell hp5 4).trans rfl; have hz4 := blk_frozen hp5 4; have hcq := (blk_cell (blk_far (blk_far (blk_far (blk_far (blk_far hq5 (p := ⟨p, 0, none⟩) hne.symm (.int .i64 0)) (p := ⟨p, 1, none⟩) hne.symm (.int .i64 0)) (p := ⟨p, 2, none⟩) hne.symm (.int .i64 0)) (p := ⟨p, 3, none⟩) hne.symm (.slice none 0 0)) (p := ⟨p, 4, none⟩) hne.symm (.slice none 0 0)) 0).trans rfl; have hzq := blk_frozen (blk_far (blk_far (blk_far (blk_far (blk_far hq5 (p := ⟨p, 0, none⟩) hne.symm (.int .i64 0)) (p := ⟨p, 1, none⟩) hne.symm (.int .i64 0)) (p := ⟨p, 2, none⟩) hne.symm (.int .i64 0)) (p := ⟨p, 3, none⟩) hne.symm (.slice none 0 0)) (p := ⟨p, 4, none⟩) hne.symm (.slice none 0 0)) 0))
 cases c₀
 simp_all [bodyPostS, results, Tryz.results53, Exit.thenS]
 exact ⟨w5, hb, rfl⟩
theorem reply_ReadMessage.idle (p q : Nat) (w : World) : CallsD Tryz.prog 53 #[.pointer (some ⟨p, 0, none⟩), .pointer (some ⟨q, 0, none⟩)] .returning w fun e u' w' => e = .returned (.tuple #[]) ∧ u' = .returning ∧ w' = w := by
 refine callsD_of_wpS Tryz.func53 rfl fun c₀ cs hu => ?_
 apply wpS_seq
 apply wpS_region
 simp [wpOpsS, go_sem, recoverD, hu, Tryz.ntmps53, Exit.thenS]
 apply wpS_seq
 apply wpS_region
 simp [wpOpsS, go_sem, Exit.thenS]
 refine wpS_cond (t := false) (by simp [Act.eval, Array.replicate]) ?_
 simp only [Bool.false_eq_true, if_false]
 refine wpS_of_wp (wp_skip ?_)
 cases c₀
 simp_all [bodyPostS, results, Tryz.results53, Exit.thenS]
theorem reply_ReadMessage.bad0 (k : Nat) (a0 : ByteArray) (t : List ByteArray) (ks : List ByteArray) (w : World) (hL : LD w) (h : word_Split.f k a0 32 = some t) (hks : reply_kinds.f = some ks) (hkl : ks.length ≤ 100) (hg : reply_words.g t 3 ks 0 = none) :
 Calls Tryz.prog 26 #[.string a0] w fun e w' => ∃ v0_ v1_ : Value, e = .returned (.tuple #[.agg #[.int .i64 0, .int .i64 0, .int .i64 0, v0_, v1_], .int .i64 2]) ∧ Kd.R k60 60 w' w.heap.size (fun _ => True) v0_ [] ∧ Kd.R k78 78 w' w.heap.size (fun _ => True) v1_ [] ∧ Below w.heap.size w w' := by
 have hmf : ∀ (fn : Fn) (first cap : Array Value) (w : World), (Instr.makeFunc fn first cap).run Tryz.prog w = .ok (.func fn first cap) w := fun _ _ _ _ => rfl
 have hu56 := Tryz.underlying56
 have hu33 := Tryz.underlying33
 have hu36 := Tryz.underlying36
 have HB := Aside0.mk (Below.refl w.heap.size w)
 go_enter_defers Tryz.func26, Tryz.ntmps26
 go_wp2_with (first | ((with_reducible refine gate_dst (N := 2) rfl ?_); refine bx (N := 2) #[.int .i64 0, .int .i64 0, .int .i64 0, .slice none 0 0, .slice none 0 0] 36 ?_; intro p hp w1 hk1 hb1; have BP := Aside0.mk hk1; have GP := Aside0.mk (show w.heap.size ≤ p by rw [hp]; exact HB.out.size); replace HB := Aside0.mk (below_step HB.out hb1); clear hk1 hp hb1) | ((with_reducible refine gate_dst (N := 3) rfl ?_); refine bx (N := 3) #[.int .i64 0] 22 ?_; intro q hq w2 hk1 hb1; have BQ := Aside0.mk hk1; have GQ := Aside0.mk (show w.heap.size ≤ q by rw [hq]; exact HB.out.size); replace BP := Aside0.mk (blk_below BP.out hb1); replace HB := Aside0.mk (below_step HB.out hb1); clear hk1 hq hb1) | ((go_at_call 41); (with_reducible refine (reply_kinds.calls ks _ hks).mono ?_); rintro e w4 ⟨v4_, rfl, ho4, hb4⟩; have HO4 := Aside0.mk ho4; replace BP := Aside0.mk (blk_below BP.out hb4); replace BQ := Aside0.mk (blk_below BQ.out hb4); replace HB := Aside0.mk (below_step HB.out hb4); obtain ⟨A4, c4, e4⟩ := Kd.R_slice ho4; subst e4; clear ho4 hb4) | ((go_at_call 45); (with_reducible refine (reply_words.both k a0 3 (by decide) A4 c4 ks t _ (Kd.R_reads' HO4.out).2.2 (Kd.R_reads' HO4.out).2.1 hkl h).mono ?_); rintro e w5 ⟨ho, hb⟩; rw [hg] at ho; (have ho2 : e = .panicked (wr_ 2) := ho); subst ho2; have hb' := hb; replace BP := Aside0.mk (blk_below BP.out hb'); replace BQ := Aside0.mk (blk_below BQ.out hb'); replace HB := Aside0.mk (below_step HB.out hb'); clear hb hb' ho))
 refine leaves_cons (f := 53) (args := #[.pointer (some ⟨p, 0, none⟩), .pointer (some ⟨q, 0, none⟩)]) (by simp) (by simp [go_sem]) ?_
 refine (reply_ReadMessage.catch p q 2 _ _ _ _ _ _ _ BP.out BQ.out).mono ?_
 rintro e u' w'' ⟨rfl, rfl, w6, hb6, rfl⟩
 (try have hne : p ≠ q := blk_ne BP.out BQ.out (by decide))
 have cp0 := (blk_cell (blk_far (blk_set (blk_set (blk_set (blk_set (blk_set (blk_below BP.out hb6) 0 (.int .i64 0)) 1 (.int .i64 0)) 2 (.int .i64 0)) 3 (.slice none 0 0)) 4 (.slice none 0 0)) (p := ⟨q, 0, none⟩) hne (.int .i64 2)) 0).trans rfl
 have cp1 := (blk_cell (blk_far (blk_set (blk_set (blk_set (blk_set (blk_set (blk_below BP.out hb6) 0 (.int .i64 0)) 1 (.int .i64 0)) 2 (.int .i64 0)) 3 (.slice none 0 0)) 4 (.slice none 0 0)) (p := ⟨q, 0, none⟩) hne (.int .i64 2)) 1).trans rfl
 have cp2 := (blk_cell (blk_far (blk_set (blk_set (blk_set (blk_set (blk_set (blk_below BP.out hb6) 0 (.int .i64 0)) 1 (.int .i64 0)) 2 (.int .i64 0)) 3 (.slice none 0 0)) 4 (.slice none 0 0)) (p := ⟨q, 0, none⟩) hne (.int .i64 2)) 2).trans rfl
 have cp3 := (blk_cell (blk_far (blk_set (blk_set (blk_set (blk_set (blk_set (blk_below BP.out hb6) 0 (.int .i64 0)) 1 (.int .i64 0)) 2 (.int .i64 0)) 3 (.slice none 0 0)) 4 (.slice none 0 0)) (p := ⟨q, 0, none⟩) hne (.int .i64 2)) 3).trans rfl
 have cp4 := (blk_cell (blk_far (blk_set (blk_set (blk_set (blk_set (blk_set (blk_below BP.out hb6) 0 (.int .i64 0)) 1 (.int .i64 0)) 2 (.int .i64 0)) 3 (.slice none 0 0)) 4 (.slice none 0 0)) (p := ⟨q, 0, none⟩) hne (.int .i64 2)) 4).trans rfl
 have cq := (blk_cell (blk_set (blk_far (blk_far (blk_far (blk_far (blk_far (blk_below BQ.out hb6) (p := ⟨p, 0, none⟩) hne.symm (.int .i64 0)) (p := ⟨p, 1, none⟩) hne.symm (.int .i64 0)) (p := ⟨p, 2, none⟩) hne.symm (.int .i64 0)) (p := ⟨p, 3, none⟩) hne.symm (.slice none 0 0)) (p := ⟨p, 4, none⟩) hne.symm (.slice none 0 0)) 0 (.int .i64 2)) 0).trans rfl
 have HB2 := (below_set (j := 0) (v := .int .i64 2) (below_set (j := 4) (v := .slice none 0 0) (below_set (j := 3) (v := .slice none 0 0) (below_set (j := 2) (v := .int .i64 0) (below_set (j := 1) (v := .int .i64 0) (below_set (j := 0) (v := .int .i64 0) (below_step HB.out hb6) GP.out) GP.out) GP.out) GP.out) GP.out) GQ.out)
 simp [Leaves, settle, results, Tryz.results26, go_sem, cp0, cp1, cp2, cp3, cp4, cq, HB2]
 (try exact ⟨_, _, ⟨rfl, rfl⟩, Kd.R_nil _ _ _ _ _, Kd.R_nil _ _ _ _ _⟩)
theorem reply_ReadMessage.bad1 (k : Nat) (a0 : ByteArray) (t : List ByteArray) (ks : List ByteArray) (i : Nat) (kd n0 : Int) (er : Int) (w : World) (hL : LD w) (h : word_Split.f k a0 32 = some t) (hks : reply_kinds.f = some ks) (hkl : ks.length ≤ 100) (hg : reply_words.g t 3 ks 0 = some i) (hkd : (i : Int) + 1 = kd) (hA0 : sat_Read.f (rdOf ByteArray.empty t 1) = some (n0, er)) (her : er ≠ 0) :
 Calls Tryz.prog 26 #[.string a0] w fun e w' => ∃ v0_ v1_ : Value, e = .returned (.tuple #[.agg #[.int .i64 0, .int .i64 0, .int .i64 0, v0_, v1_], .int .i64 er]) ∧ Kd.R k60 60 w' w.heap.size (fun _ => True) v0_ [] ∧ Kd.R k78 78 w' w.heap.size (fun _ => True) v1_ [] ∧ Below w.heap.size w w' := by
 have hi := (reply_words.g_some hg).2
 have hwk : wrap64 kd = kd := by unfold wrap64; omega
 obtain ⟨x0, hX0⟩ : ∃ x, x = rdOf ByteArray.empty t 1 := ⟨_, rfl⟩
 rw [← hX0] at hA0
 have hlt := (reply_words.g_some hg).1
 obtain ⟨y, hy⟩ : ∃ y : List ByteArray, y = t.drop 1 := ⟨_, rfl⟩
 have hyl : (y.length : Int) = 3 := by rw [hy, List.length_drop]; omega
 have Hx0 := Aside0.mk (show rdOf ByteArray.empty y 0 = x0 by rw [hy, hX0]; exact reply_words.rd1 t 0)
 have q0 : ((0 : Int) < (y.length : Int)) = True := eq_true (by omega)
 have qi0 : (0 < y.length) = True := eq_true (by omega)
 have HY := Aside0.mk hy
 clear hy hX0
 have hmf : ∀ (fn : Fn) (first cap : Array Value) (w : World), (Instr.makeFunc fn first cap).run Tryz.prog w = .ok (.func fn first cap) w := fun _ _ _ _ => rfl
 have hu56 := Tryz.underlying56
 have hu33 := Tryz.underlying33
 have hu36 := Tryz.underlying36
 have HB := Aside0.mk (Below.refl w.heap.size w)
 go_enter_defers Tryz.func26, Tryz.ntmps26
 go_wp2_with (first | ((with_reducible refine gate_dst (N := 2) rfl ?_); refine bx (N := 2) #[.int .i64 0, .int .i64 0, .int .i64 0, .slice none 0 0, .slice none 0 0] 36 ?_; intro p hp w1 hk1 hb1; have BP := Aside0.mk hk1; have GP := Aside0.mk (show w.heap.size ≤ p by rw [hp]; exact HB.out.size); replace HB := Aside0.mk (below_step HB.out hb1); clear hk1 hp hb1) | ((with_reducible refine gate_dst (N := 3) rfl ?_); refine bx (N := 3) #[.int .i64 0] 22 ?_; intro q hq w2 hk1 hb1; have BQ := Aside0.mk hk1; have GQ := Aside0.mk (show w.heap.size ≤ q by rw [hq]; exact HB.out.size); replace BP := Aside0.mk (blk_below BP.out hb1); replace HB := Aside0.mk (below_step HB.out hb1); clear hk1 hq hb1) | ((go_at_call 41); (with_reducible refine (reply_kinds.calls ks _ hks).mono ?_); rintro e w4 ⟨v4_, rfl, ho4, hb4⟩; have HO4 := Aside0.mk ho4; replace BP := Aside0.mk (blk_below BP.out hb4); replace BQ := Aside0.mk (blk_below BQ.out hb4); replace HB := Aside0.mk (below_step HB.out hb4); obtain ⟨A4, c4, e4⟩ := Kd.R_slice ho4; subst e4; clear ho4 hb4) | ((go_at_call 45); (with_reducible refine (reply_words.both k a0 3 (by decide) A4 c4 ks t _ (Kd.R_reads' HO4.out).2.2 (Kd.R_reads' HO4.out).2.1 hkl h).mono ?_); rintro e w5 ⟨ho, hb⟩; rw [hg] at ho; obtain ⟨v1_, rfl, hq⟩ := ho; have hb' := hb; replace BP := Aside0.mk (blk_below BP.out hb'); replace BQ := Aside0.mk (blk_below BQ.out hb'); replace HB := Aside0.mk (below_step HB.out hb'); rw [← HY.out] at hq; obtain ⟨A5, c5, e5, _⟩ := Kd.Q_slice hq; subst e5; have HQ := Aside0.mk hq; clear hq hb hb'; have hne := blk_ne BP.out BQ.out (by decide); have hc1_ := (blk_cell BP.out 0).trans rfl; have hz1_ := blk_frozen BP.out 0; have HN_ := Aside0.mk (show (World.setCell _ ⟨p, 0, none⟩ (.int .i64 kd)).heap[p]? = some (.cells #[.int .i64 kd, .int .i64 0, .int .i64 0, .slice none 0 0, .slice none 0 0] 36 (0, 0)) from blk_set BP.out 0 (.int .i64 kd)); replace HQ := Aside0.mk (Kd.Q_set HQ.out BP.out (by decide) 0 (.int .i64 kd)); replace BQ := Aside0.mk (blk_far BQ.out (p := ⟨p, 0, none⟩) (hne.symm) (.int .i64 kd)); replace BP := HN_; clear HN_; replace HB := Aside0.mk (below_set (j := 0) (v := .int .i64 kd) HB.out GP.out); obtain ⟨ad10_, ea10_, hx10_⟩ := Kd.at_string (Kd.Q_reads' HQ.out).2.2 0 (by decide) (by omega); cases ea10_; (try rw [show ((0 : Int)).toNat = 0 from rfl] at hx10_); (try rw [Addr.add_zero'] at hx10_); rw [Hx0.out] at hx10_; skip) | ((go_at_call 46); (with_reducible refine (reply_number.bad1 x0 2147483648 n0 er _ ?hl hA0 her).mono ?_); (case hl => exact LD.below hL HB.out); rintro e w20 ⟨rfl, hb'⟩; replace BP := Aside0.mk (blk_below BP.out hb'); replace BQ := Aside0.mk (blk_below BQ.out hb'); replace HQ := Aside0.mk (Kd.Q_below HQ.out hb'); replace HB := Aside0.mk (below_step HB.out hb'); clear hb'; skip))
 refine leaves_cons (f := 53) (args := #[.pointer (some ⟨p, 0, none⟩), .pointer (some ⟨q, 0, none⟩)]) (by simp) (by simp [go_sem]) ?_
 refine (reply_ReadMessage.catch p q er _ _ _ _ _ _ _ BP.out BQ.out).mono ?_
 rintro e u' w'' ⟨rfl, rfl, w6, hb6, rfl⟩
 (try have hne : p ≠ q := blk_ne BP.out BQ.out (by decide))
 have cp0 := (blk_cell (blk_far (blk_set (blk_set (blk_set (blk_set (blk_set (blk_below BP.out hb6) 0 (.int .i64 0)) 1 (.int .i64 0)) 2 (.int .i64 0)) 3 (.slice none 0 0)) 4 (.slice none 0 0)) (p := ⟨q, 0, none⟩) hne (.int .i64 er)) 0).trans rfl
 have cp1 := (blk_cell (blk_far (blk_set (blk_set (blk_set (blk_set (blk_set (blk_below BP.out hb6) 0 (.int .i64 0)) 1 (.int .i64 0)) 2 (.int .i64 0)) 3 (.slice none 0 0)) 4 (.slice none 0 0)) (p := ⟨q, 0, none⟩) hne (.int .i64 er)) 1).trans rfl
 have cp2 := (blk_cell (blk_far (blk_set (blk_set (blk_set (blk_set (blk_set (blk_below BP.out hb6) 0 (.int .i64 0)) 1 (.int .i64 0)) 2 (.int .i64 0)) 3 (.slice none 0 0)) 4 (.slice none 0 0)) (p := ⟨q, 0, none⟩) hne (.int .i64 er)) 2).trans rfl
 have cp3 := (blk_cell (blk_far (blk_set (blk_set (blk_set (blk_set (blk_set (blk_below BP.out hb6) 0 (.int .i64 0)) 1 (.int .i64 0)) 2 (.int .i64 0)) 3 (.slice none 0 0)) 4 (.slice none 0 0)) (p := ⟨q, 0, none⟩) hne (.int .i64 er)) 3).trans rfl
 have cp4 := (blk_cell (blk_far (blk_set (blk_set (blk_set (blk_set (blk_set (blk_below BP.out hb6) 0 (.int .i64 0)) 1 (.int .i64 0)) 2 (.int .i64 0)) 3 (.slice none 0 0)) 4 (.slice none 0 0)) (p := ⟨q, 0, none⟩) hne (.int .i64 er)) 4).trans rfl
 have cq := (blk_cell (blk_set (blk_far (blk_far (blk_far (blk_far (blk_far (blk_below BQ.out hb6) (p := ⟨p, 0, none⟩) hne.symm (.int .i64 0)) (p := ⟨p, 1, none⟩) hne.symm (.int .i64 0)) (p := ⟨p, 2, none⟩) hne.symm (.int .i64 0)) (p := ⟨p, 3, none⟩) hne.symm (.slice none 0 0)) (p := ⟨p, 4, none⟩) hne.symm (.slice none 0 0)) 0 (.int .i64 er)) 0).trans rfl
 have HB2 := (below_set (j := 0) (v := .int .i64 er) (below_set (j := 4) (v := .slice none 0 0) (below_set (j := 3) (v := .slice none 0 0) (below_set (j := 2) (v := .int .i64 0) (below_set (j := 1) (v := .int .i64 0) (below_set (j := 0) (v := .int .i64 0) (below_step HB.out hb6) GP.out) GP.out) GP.out) GP.out) GP.out) GQ.out)
 simp [Leaves, settle, results, Tryz.results26, go_sem, cp0, cp1, cp2, cp3, cp4, cq, HB2]
 (try exact ⟨_, _, ⟨rfl, rfl⟩, Kd.R_nil _ _ _ _ _, Kd.R_nil _ _ _ _ _⟩)
theorem reply_ReadMessage.bad2 (k : Nat) (a0 : ByteArray) (t : List ByteArray) (ks : List ByteArray) (i : Nat) (kd n0 : Int) (w : World) (hL : LD w) (h : word_Split.f k a0 32 = some t) (hks : reply_kinds.f = some ks) (hkl : ks.length ≤ 100) (hg : reply_words.g t 3 ks 0 = some i) (hkd : (i : Int) + 1 = kd) (hA0 : sat_Read.f (rdOf ByteArray.empty t 1) = some (n0, 0)) (her : n0 < 0 ∨ (0 < (2147483648 : Int) ∧ 2147483648 ≤ n0)) :
 Calls Tryz.prog 26 #[.string a0] w fun e w' => ∃ v0_ v1_ : Value, e = .returned (.tuple #[.agg #[.int .i64 0, .int .i64 0, .int .i64 0, v0_, v1_], .int .i64 3]) ∧ Kd.R k60 60 w' w.heap.size (fun _ => True) v0_ [] ∧ Kd.R k78 78 w' w.heap.size (fun _ => True) v1_ [] ∧ Below w.heap.size w w' := by
 have hi := (reply_words.g_some hg).2
 have hwk : wrap64 kd = kd := by unfold wrap64; omega
 obtain ⟨x0, hX0⟩ : ∃ x, x = rdOf ByteArray.empty t 1 := ⟨_, rfl⟩
 rw [← hX0] at hA0
 have hlt := (reply_words.g_some hg).1
 obtain ⟨y, hy⟩ : ∃ y : List ByteArray, y = t.drop 1 := ⟨_, rfl⟩
 have hyl : (y.length : Int) = 3 := by rw [hy, List.length_drop]; omega
 have Hx0 := Aside0.mk (show rdOf ByteArray.empty y 0 = x0 by rw [hy, hX0]; exact reply_words.rd1 t 0)
 have q0 : ((0 : Int) < (y.length : Int)) = True := eq_true (by omega)
 have qi0 : (0 < y.length) = True := eq_true (by omega)
 have HY := Aside0.mk hy
 clear hy hX0
 have hmf : ∀ (fn : Fn) (first cap : Array Value) (w : World), (Instr.makeFunc fn first cap).run Tryz.prog w = .ok (.func fn first cap) w := fun _ _ _ _ => rfl
 have hu56 := Tryz.underlying56
 have hu33 := Tryz.underlying33
 have hu36 := Tryz.underlying36
 have HB := Aside0.mk (Below.refl w.heap.size w)
 go_enter_defers Tryz.func26, Tryz.ntmps26
 go_wp2_with (first | ((with_reducible refine gate_dst (N := 2) rfl ?_); refine bx (N := 2) #[.int .i64 0, .int .i64 0, .int .i64 0, .slice none 0 0, .slice none 0 0] 36 ?_; intro p hp w1 hk1 hb1; have BP := Aside0.mk hk1; have GP := Aside0.mk (show w.heap.size ≤ p by rw [hp]; exact HB.out.size); replace HB := Aside0.mk (below_step HB.out hb1); clear hk1 hp hb1) | ((with_reducible refine gate_dst (N := 3) rfl ?_); refine bx (N := 3) #[.int .i64 0] 22 ?_; intro q hq w2 hk1 hb1; have BQ := Aside0.mk hk1; have GQ := Aside0.mk (show w.heap.size ≤ q by rw [hq]; exact HB.out.size); replace BP := Aside0.mk (blk_below BP.out hb1); replace HB := Aside0.mk (below_step HB.out hb1); clear hk1 hq hb1) | ((go_at_call 41); (with_reducible refine (reply_kinds.calls ks _ hks).mono ?_); rintro e w4 ⟨v4_, rfl, ho4, hb4⟩; have HO4 := Aside0.mk ho4; replace BP := Aside0.mk (blk_below BP.out hb4); replace BQ := Aside0.mk (blk_below BQ.out hb4); replace HB := Aside0.mk (below_step HB.out hb4); obtain ⟨A4, c4, e4⟩ := Kd.R_slice ho4; subst e4; clear ho4 hb4) | ((go_at_call 45); (with_reducible refine (reply_words.both k a0 3 (by decide) A4 c4 ks t _ (Kd.R_reads' HO4.out).2.2 (Kd.R_reads' HO4.out).2.1 hkl h).mono ?_); rintro e w5 ⟨ho, hb⟩; rw [hg] at ho; obtain ⟨v1_, rfl, hq⟩ := ho; have hb' := hb; replace BP := Aside0.mk (blk_below BP.out hb'); replace BQ := Aside0.mk (blk_below BQ.out hb'); replace HB := Aside0.mk (below_step HB.out hb'); rw [← HY.out] at hq; obtain ⟨A5, c5, e5, _⟩ := Kd.Q_slice hq; subst e5; have HQ := Aside0.mk hq; clear hq hb hb'; have hne := blk_ne BP.out BQ.out (by decide); have hc1_ := (blk_cell BP.out 0).trans rfl; have hz1_ := blk_frozen BP.out 0; have HN_ := Aside0.mk (show (World.setCell _ ⟨p, 0, none⟩ (.int .i64 kd)).heap[p]? = some (.cells #[.int .i64 kd, .int .i64 0, .int .i64 0, .slice none 0 0, .slice none 0 0] 36 (0, 0)) from blk_set BP.out 0 (.int .i64 kd)); replace HQ := Aside0.mk (Kd.Q_set HQ.out BP.out (by decide) 0 (.int .i64 kd)); replace BQ := Aside0.mk (blk_far BQ.out (p := ⟨p, 0, none⟩) (hne.symm) (.int .i64 kd)); replace BP := HN_; clear HN_; replace HB := Aside0.mk (below_set (j := 0) (v := .int .i64 kd) HB.out GP.out); obtain ⟨ad10_, ea10_, hx10_⟩ := Kd.at_string (Kd.Q_reads' HQ.out).2.2 0 (by decide) (by omega); cases ea10_; (try rw [show ((0 : Int)).toNat = 0 from rfl] at hx10_); (try rw [Addr.add_zero'] at hx10_); rw [Hx0.out] at hx10_; skip) | ((go_at_call 46); (with_reducible refine (reply_number.bad2 x0 2147483648 n0 _ ?hl hA0 her).mono ?_); (case hl => exact LD.below hL HB.out); rintro e w20 ⟨rfl, hb'⟩; replace BP := Aside0.mk (blk_below BP.out hb'); replace BQ := Aside0.mk (blk_below BQ.out hb'); replace HQ := Aside0.mk (Kd.Q_below HQ.out hb'); replace HB := Aside0.mk (below_step HB.out hb'); clear hb'; skip))
 refine leaves_cons (f := 53) (args := #[.pointer (some ⟨p, 0, none⟩), .pointer (some ⟨q, 0, none⟩)]) (by simp) (by simp [go_sem]) ?_
 refine (reply_ReadMessage.catch p q 3 _ _ _ _ _ _ _ BP.out BQ.out).mono ?_
 rintro e u' w'' ⟨rfl, rfl, w6, hb6, rfl⟩
 (try have hne : p ≠ q := blk_ne BP.out BQ.out (by decide))
 have cp0 := (blk_cell (blk_far (blk_set (blk_set (blk_set (blk_set (blk_set (blk_below BP.out hb6) 0 (.int .i64 0)) 1 (.int .i64 0)) 2 (.int .i64 0)) 3 (.slice none 0 0)) 4 (.slice none 0 0)) (p := ⟨q, 0, none⟩) hne (.int .i64 3)) 0).trans rfl
 have cp1 := (blk_cell (blk_far (blk_set (blk_set (blk_set (blk_set (blk_set (blk_below BP.out hb6) 0 (.int .i64 0)) 1 (.int .i64 0)) 2 (.int .i64 0)) 3 (.slice none 0 0)) 4 (.slice none 0 0)) (p := ⟨q, 0, none⟩) hne (.int .i64 3)) 1).trans rfl
 have cp2 := (blk_cell (blk_far (blk_set (blk_set (blk_set (blk_set (blk_set (blk_below BP.out hb6) 0 (.int .i64 0)) 1 (.int .i64 0)) 2 (.int .i64 0)) 3 (.slice none 0 0)) 4 (.slice none 0 0)) (p := ⟨q, 0, none⟩) hne (.int .i64 3)) 2).trans rfl
 have cp3 := (blk_cell (blk_far (blk_set (blk_set (blk_set (blk_set (blk_set (blk_below BP.out hb6) 0 (.int .i64 0)) 1 (.int .i64 0)) 2 (.int .i64 0)) 3 (.slice none 0 0)) 4 (.slice none 0 0)) (p := ⟨q, 0, none⟩) hne (.int .i64 3)) 3).trans rfl
 have cp4 := (blk_cell (blk_far (blk_set (blk_set (blk_set (blk_set (blk_set (blk_below BP.out hb6) 0 (.int .i64 0)) 1 (.int .i64 0)) 2 (.int .i64 0)) 3 (.slice none 0 0)) 4 (.slice none 0 0)) (p := ⟨q, 0, none⟩) hne (.int .i64 3)) 4).trans rfl
 have cq := (blk_cell (blk_set (blk_far (blk_far (blk_far (blk_far (blk_far (blk_below BQ.out hb6) (p := ⟨p, 0, none⟩) hne.symm (.int .i64 0)) (p := ⟨p, 1, none⟩) hne.symm (.int .i64 0)) (p := ⟨p, 2, none⟩) hne.symm (.int .i64 0)) (p := ⟨p, 3, none⟩) hne.symm (.slice none 0 0)) (p := ⟨p, 4, none⟩) hne.symm (.slice none 0 0)) 0 (.int .i64 3)) 0).trans rfl
 have HB2 := (below_set (j := 0) (v := .int .i64 3) (below_set (j := 4) (v := .slice none 0 0) (below_set (j := 3) (v := .slice none 0 0) (below_set (j := 2) (v := .int .i64 0) (below_set (j := 1) (v := .int .i64 0) (below_set (j := 0) (v := .int .i64 0) (below_step HB.out hb6) GP.out) GP.out) GP.out) GP.out) GP.out) GQ.out)
 simp [Leaves, settle, results, Tryz.results26, go_sem, cp0, cp1, cp2, cp3, cp4, cq, HB2]
 (try exact ⟨_, _, ⟨rfl, rfl⟩, Kd.R_nil _ _ _ _ _, Kd.R_nil _ _ _ _ _⟩)
theorem reply_ReadMessage.bad3 (k : Nat) (a0 : ByteArray) (t : List ByteArray) (ks : List ByteArray) (i : Nat) (kd n0 : Int) (n1 : Int) (er : Int) (w : World) (hL : LD w) (h : word_Split.f k a0 32 = some t) (hks : reply_kinds.f = some ks) (hkl : ks.length ≤ 100) (hg : reply_words.g t 3 ks 0 = some i) (hkd : (i : Int) + 1 = kd) (hA0 : sat_Read.f (rdOf ByteArray.empty t 1) = some (n0, 0)) (hn0 : 0 ≤ n0) (hm0 : (0 : Int) < 2147483648 → n0 < 2147483648) (hA1 : sat_Read.f (rdOf ByteArray.empty t 2) = some (n1, er)) (her : er ≠ 0) :
 Calls Tryz.prog 26 #[.string a0] w fun e w' => ∃ v0_ v1_ : Value, e = .returned (.tuple #[.agg #[.int .i64 0, .int .i64 0, .int .i64 0, v0_, v1_], .int .i64 er]) ∧ Kd.R k60 60 w' w.heap.size (fun _ => True) v0_ [] ∧ Kd.R k78 78 w' w.heap.size (fun _ => True) v1_ [] ∧ Below w.heap.size w w' := by
 have hi := (reply_words.g_some hg).2
 have hwk : wrap64 kd = kd := by unfold wrap64; omega
 have hwn : wrap64 n0 = n0 := by have := hm0 (by decide); unfold wrap64; omega
 obtain ⟨x0, hX0⟩ : ∃ x, x = rdOf ByteArray.empty t 1 := ⟨_, rfl⟩
 obtain ⟨x1, hX1⟩ : ∃ x, x = rdOf ByteArray.empty t 2 := ⟨_, rfl⟩
 rw [← hX0] at hA0
 rw [← hX1] at hA1
 have hlt := (reply_words.g_some hg).1
 obtain ⟨y, hy⟩ : ∃ y : List ByteArray, y = t.drop 1 := ⟨_, rfl⟩
 have hyl : (y.length : Int) = 3 := by rw [hy, List.length_drop]; omega
 have Hx0 := Aside0.mk (show rdOf ByteArray.empty y 0 = x0 by rw [hy, hX0]; exact reply_words.rd1 t 0)
 have q0 : ((0 : Int) < (y.length : Int)) = True := eq_true (by omega)
 have qi0 : (0 < y.length) = True := eq_true (by omega)
 have Hx1 := Aside0.mk (show rdOf ByteArray.empty y 1 = x1 by rw [hy, hX1]; exact reply_words.rd1 t 1)
 have q1 : ((1 : Int) < (y.length : Int)) = True := eq_true (by omega)
 have qi1 : (1 < y.length) = True := eq_true (by omega)
 have HY := Aside0.mk hy
 clear hy hX0 hX1
 have hmf : ∀ (fn : Fn) (first cap : Array Value) (w : World), (Instr.makeFunc fn first cap).run Tryz.prog w = .ok (.func fn first cap) w := fun _ _ _ _ => rfl
 have hu56 := Tryz.underlying56
 have hu33 := Tryz.underlying33
 have hu36 := Tryz.underlying36
 have HB := Aside0.mk (Below.refl w.heap.size w)
 go_enter_defers Tryz.func26, Tryz.ntmps26
 go_wp2_with (first | ((with_reducible refine gate_dst (N := 2) rfl ?_); refine bx (N := 2) #[.int .i64 0, .int .i64 0, .int .i64 0, .slice none 0 0, .slice none 0 0] 36 ?_; intro p hp w1 hk1 hb1; have BP := Aside0.mk hk1; have GP := Aside0.mk (show w.heap.size ≤ p by rw [hp]; exact HB.out.size); replace HB := Aside0.mk (below_step HB.out hb1); clear hk1 hp hb1) | ((with_reducible refine gate_dst (N := 3) rfl ?_); refine bx (N := 3) #[.int .i64 0] 22 ?_; intro q hq w2 hk1 hb1; have BQ := Aside0.mk hk1; have GQ := Aside0.mk (show w.heap.size ≤ q by rw [hq]; exact HB.out.size); replace BP := Aside0.mk (blk_below BP.out hb1); replace HB := Aside0.mk (below_step HB.out hb1); clear hk1 hq hb1) | ((go_at_call 41); (with_reducible refine (reply_kinds.calls ks _ hks).mono ?_); rintro e w4 ⟨v4_, rfl, ho4, hb4⟩; have HO4 := Aside0.mk ho4; replace BP := Aside0.mk (blk_below BP.out hb4); replace BQ := Aside0.mk (blk_below BQ.out hb4); replace HB := Aside0.mk (below_step HB.out hb4); obtain ⟨A4, c4, e4⟩ := Kd.R_slice ho4; subst e4; clear ho4 hb4) | ((go_at_call 45); (with_reducible refine (reply_words.both k a0 3 (by decide) A4 c4 ks t _ (Kd.R_reads' HO4.out).2.2 (Kd.R_reads' HO4.out).2.1 hkl h).mono ?_); rintro e w5 ⟨ho, hb⟩; rw [hg] at ho; obtain ⟨v1_, rfl, hq⟩ := ho; have hb' := hb; replace BP := Aside0.mk (blk_below BP.out hb'); replace BQ := Aside0.mk (blk_below BQ.out hb'); replace HB := Aside0.mk (below_step HB.out hb'); rw [← HY.out] at hq; obtain ⟨A5, c5, e5, _⟩ := Kd.Q_slice hq; subst e5; have HQ := Aside0.mk hq; clear hq hb hb'; have hne := blk_ne BP.out BQ.out (by decide); have hc1_ := (blk_cell BP.out 0).trans rfl; have hz1_ := blk_frozen BP.out 0; have HN_ := Aside0.mk (show (World.setCell _ ⟨p, 0, none⟩ (.int .i64 kd)).heap[p]? = some (.cells #[.int .i64 kd, .int .i64 0, .int .i64 0, .slice none 0 0, .slice none 0 0] 36 (0, 0)) from blk_set BP.out 0 (.int .i64 kd)); replace HQ := Aside0.mk (Kd.Q_set HQ.out BP.out (by decide) 0 (.int .i64 kd)); replace BQ := Aside0.mk (blk_far BQ.out (p := ⟨p, 0, none⟩) (hne.symm) (.int .i64 kd)); replace BP := HN_; clear HN_; replace HB := Aside0.mk (below_set (j := 0) (v := .int .i64 kd) HB.out GP.out); obtain ⟨ad10_, ea10_, hx10_⟩ := Kd.at_string (Kd.Q_reads' HQ.out).2.2 0 (by decide) (by omega); cases ea10_; (try rw [show ((0 : Int)).toNat = 0 from rfl] at hx10_); (try rw [Addr.add_zero'] at hx10_); rw [Hx0.out] at hx10_; skip) | ((go_at_call 46); (with_reducible refine (reply_number.good x0 2147483648 n0 _ ?hl hA0 hn0 hm0).mono ?_); (case hl => exact LD.below hL HB.out); rintro e w20 ⟨rfl, hb'⟩; replace BP := Aside0.mk (blk_below BP.out hb'); replace BQ := Aside0.mk (blk_below BQ.out hb'); replace HQ := Aside0.mk (Kd.Q_below HQ.out hb'); replace HB := Aside0.mk (below_step HB.out hb'); clear hb'; have hc2_ := (blk_cell BP.out 1).trans rfl; have hz2_ := blk_frozen BP.out 1; have HN_ := Aside0.mk (show (World.setCell _ ⟨p, 1, none⟩ (.int .i64 n0)).heap[p]? = some (.cells #[.int .i64 kd, .int .i64 n0, .int .i64 0, .slice none 0 0, .slice none 0 0] 36 (0, 0)) from blk_set BP.out 1 (.int .i64 n0)); replace HQ := Aside0.mk (Kd.Q_set HQ.out BP.out (by decide) 1 (.int .i64 n0)); replace BQ := Aside0.mk (blk_far BQ.out (p := ⟨p, 1, none⟩) (hne.symm) (.int .i64 n0)); replace BP := HN_; clear HN_; replace HB := Aside0.mk (below_set (j := 1) (v := .int .i64 n0) HB.out GP.out); obtain ⟨ad11_, ea11_, hx11_⟩ := Kd.at_string (Kd.Q_reads' HQ.out).2.2 1 (by decide) (by omega); cases ea11_; simp only [show (1 : Int).toNat = 1 from rfl, Nat.reduceMul, Nat.reduceEqDiff, Go.Addr.add, ↓reduceIte] at hx11_; rw [Hx1.out] at hx11_; skip) | ((go_at_call 46); (with_reducible refine (reply_number.bad1 x1 0 n1 er _ ?hl hA1 her).mono ?_); (case hl => exact LD.below hL HB.out); rintro e w21 ⟨rfl, hb'⟩; replace BP := Aside0.mk (blk_below BP.out hb'); replace BQ := Aside0.mk (blk_below BQ.out hb'); replace HQ := Aside0.mk (Kd.Q_below HQ.out hb'); replace HB := Aside0.mk (below_step HB.out hb'); clear hb'; skip))
 refine leaves_cons (f := 53) (args := #[.pointer (some ⟨p, 0, none⟩), .pointer (some ⟨q, 0, none⟩)]) (by simp) (by simp [go_sem]) ?_
 refine (reply_ReadMessage.catch p q er _ _ _ _ _ _ _ BP.out BQ.out).mono ?_
 rintro e u' w'' ⟨rfl, rfl, w6, hb6, rfl⟩
 (try have hne : p ≠ q := blk_ne BP.out BQ.out (by decide))
 have cp0 := (blk_cell (blk_far (blk_set (blk_set (blk_set (blk_set (blk_set (blk_below BP.out hb6) 0 (.int .i64 0)) 1 (.int .i64 0)) 2 (.int .i64 0)) 3 (.slice none 0 0)) 4 (.slice none 0 0)) (p := ⟨q, 0, none⟩) hne (.int .i64 er)) 0).trans rfl
 have cp1 := (blk_cell (blk_far (blk_set (blk_set (blk_set (blk_set (blk_set (blk_below BP.out hb6) 0 (.int .i64 0)) 1 (.int .i64 0)) 2 (.int .i64 0)) 3 (.slice none 0 0)) 4 (.slice none 0 0)) (p := ⟨q, 0, none⟩) hne (.int .i64 er)) 1).trans rfl
 have cp2 := (blk_cell (blk_far (blk_set (blk_set (blk_set (blk_set (blk_set (blk_below BP.out hb6) 0 (.int .i64 0)) 1 (.int .i64 0)) 2 (.int .i64 0)) 3 (.slice none 0 0)) 4 (.slice none 0 0)) (p := ⟨q, 0, none⟩) hne (.int .i64 er)) 2).trans rfl
 have cp3 := (blk_cell (blk_far (blk_set (blk_set (blk_set (blk_set (blk_set (blk_below BP.out hb6) 0 (.int .i64 0)) 1 (.int .i64 0)) 2 (.int .i64 0)) 3 (.slice none 0 0)) 4 (.slice none 0 0)) (p := ⟨q, 0, none⟩) hne (.int .i64 er)) 3).trans rfl
 have cp4 := (blk_cell (blk_far (blk_set (blk_set (blk_set (blk_set (blk_set (blk_below BP.out hb6) 0 (.int .i64 0)) 1 (.int .i64 0)) 2 (.int .i64 0)) 3 (.slice none 0 0)) 4 (.slice none 0 0)) (p := ⟨q, 0, none⟩) hne (.int .i64 er)) 4).trans rfl
 have cq := (blk_cell (blk_set (blk_far (blk_far (blk_far (blk_far (blk_far (blk_below BQ.out hb6) (p := ⟨p, 0, none⟩) hne.symm (.int .i64 0)) (p := ⟨p, 1, none⟩) hne.symm (.int .i64 0)) (p := ⟨p, 2, none⟩) hne.symm (.int .i64 0)) (p := ⟨p, 3, none⟩) hne.symm (.slice none 0 0)) (p := ⟨p, 4, none⟩) hne.symm (.slice none 0 0)) 0 (.int .i64 er)) 0).trans rfl
 have HB2 := (below_set (j := 0) (v := .int .i64 er) (below_set (j := 4) (v := .slice none 0 0) (below_set (j := 3) (v := .slice none 0 0) (below_set (j := 2) (v := .int .i64 0) (below_set (j := 1) (v := .int .i64 0) (below_set (j := 0) (v := .int .i64 0) (below_step HB.out hb6) GP.out) GP.out) GP.out) GP.out) GP.out) GQ.out)
 simp [Leaves, settle, results, Tryz.results26, go_sem, cp0, cp1, cp2, cp3, cp4, cq, HB2]
 (try exact ⟨_, _, ⟨rfl, rfl⟩, Kd.R_nil _ _ _ _ _, Kd.R_nil _ _ _ _ _⟩)
theorem reply_ReadMessage.bad4 (k : Nat) (a0 : ByteArray) (t : List ByteArray) (ks : List ByteArray) (i : Nat) (kd n0 : Int) (n1 : Int) (w : World) (hL : LD w) (h : word_Split.f k a0 32 = some t) (hks : reply_kinds.f = some ks) (hkl : ks.length ≤ 100) (hg : reply_words.g t 3 ks 0 = some i) (hkd : (i : Int) + 1 = kd) (hA0 : sat_Read.f (rdOf ByteArray.empty t 1) = some (n0, 0)) (hn0 : 0 ≤ n0) (hm0 : (0 : Int) < 2147483648 → n0 < 2147483648) (hA1 : sat_Read.f (rdOf ByteArray.empty t 2) = some (n1, 0)) (her : n1 < 0) :
 Calls Tryz.prog 26 #[.string a0] w fun e w' => ∃ v0_ v1_ : Value, e = .returned (.tuple #[.agg #[.int .i64 0, .int .i64 0, .int .i64 0, v0_, v1_], .int .i64 3]) ∧ Kd.R k60 60 w' w.heap.size (fun _ => True) v0_ [] ∧ Kd.R k78 78 w' w.heap.size (fun _ => True) v1_ [] ∧ Below w.heap.size w w' := by
 have hi := (reply_words.g_some hg).2
 have hwk : wrap64 kd = kd := by unfold wrap64; omega
 have hwn : wrap64 n0 = n0 := by have := hm0 (by decide); unfold wrap64; omega
 obtain ⟨x0, hX0⟩ : ∃ x, x = rdOf ByteArray.empty t 1 := ⟨_, rfl⟩
 obtain ⟨x1, hX1⟩ : ∃ x, x = rdOf ByteArray.empty t 2 := ⟨_, rfl⟩
 rw [← hX0] at hA0
 rw [← hX1] at hA1
 have hlt := (reply_words.g_some hg).1
 obtain ⟨y, hy⟩ : ∃ y : List ByteArray, y = t.drop 1 := ⟨_, rfl⟩
 have hyl : (y.length : Int) = 3 := by rw [hy, List.length_drop]; omega
 have Hx0 := Aside0.mk (show rdOf ByteArray.empty y 0 = x0 by rw [hy, hX0]; exact reply_words.rd1 t 0)
 have q0 : ((0 : Int) < (y.length : Int)) = True := eq_true (by omega)
 have qi0 : (0 < y.length) = True := eq_true (by omega)
 have Hx1 := Aside0.mk (show rdOf ByteArray.empty y 1 = x1 by rw [hy, hX1]; exact reply_words.rd1 t 1)
 have q1 : ((1 : Int) < (y.length : Int)) = True := eq_true (by omega)
 have qi1 : (1 < y.length) = True := eq_true (by omega)
 have HY := Aside0.mk hy
 clear hy hX0 hX1
 have hmf : ∀ (fn : Fn) (first cap : Array Value) (w : World), (Instr.makeFunc fn first cap).run Tryz.prog w = .ok (.func fn first cap) w := fun _ _ _ _ => rfl
 have hu56 := Tryz.underlying56
 have hu33 := Tryz.underlying33
 have hu36 := Tryz.underlying36
 have HB := Aside0.mk (Below.refl w.heap.size w)
 go_enter_defers Tryz.func26, Tryz.ntmps26
 go_wp2_with (first | ((with_reducible refine gate_dst (N := 2) rfl ?_); refine bx (N := 2) #[.int .i64 0, .int .i64 0, .int .i64 0, .slice none 0 0, .slice none 0 0] 36 ?_; intro p hp w1 hk1 hb1; have BP := Aside0.mk hk1; have GP := Aside0.mk (show w.heap.size ≤ p by rw [hp]; exact HB.out.size); replace HB := Aside0.mk (below_step HB.out hb1); clear hk1 hp hb1) | ((with_reducible refine gate_dst (N := 3) rfl ?_); refine bx (N := 3) #[.int .i64 0] 22 ?_; intro q hq w2 hk1 hb1; have BQ := Aside0.mk hk1; have GQ := Aside0.mk (show w.heap.size ≤ q by rw [hq]; exact HB.out.size); replace BP := Aside0.mk (blk_below BP.out hb1); replace HB := Aside0.mk (below_step HB.out hb1); clear hk1 hq hb1) | ((go_at_call 41); (with_reducible refine (reply_kinds.calls ks _ hks).mono ?_); rintro e w4 ⟨v4_, rfl, ho4, hb4⟩; have HO4 := Aside0.mk ho4; replace BP := Aside0.mk (blk_below BP.out hb4); replace BQ := Aside0.mk (blk_below BQ.out hb4); replace HB := Aside0.mk (below_step HB.out hb4); obtain ⟨A4, c4, e4⟩ := Kd.R_slice ho4; subst e4; clear ho4 hb4) | ((go_at_call 45); (with_reducible refine (reply_words.both k a0 3 (by decide) A4 c4 ks t _ (Kd.R_reads' HO4.out).2.2 (Kd.R_reads' HO4.out).2.1 hkl h).mono ?_); rintro e w5 ⟨ho, hb⟩; rw [hg] at ho; obtain ⟨v1_, rfl, hq⟩ := ho; have hb' := hb; replace BP := Aside0.mk (blk_below BP.out hb'); replace BQ := Aside0.mk (blk_below BQ.out hb'); replace HB := Aside0.mk (below_step HB.out hb'); rw [← HY.out] at hq; obtain ⟨A5, c5, e5, _⟩ := Kd.Q_slice hq; subst e5; have HQ := Aside0.mk hq; clear hq hb hb'; have hne := blk_ne BP.out BQ.out (by decide); have hc1_ := (blk_cell BP.out 0).trans rfl; have hz1_ := blk_frozen BP.out 0; have HN_ := Aside0.mk (show (World.setCell _ ⟨p, 0, none⟩ (.int .i64 kd)).heap[p]? = some (.cells #[.int .i64 kd, .int .i64 0, .int .i64 0, .slice none 0 0, .slice none 0 0] 36 (0, 0)) from blk_set BP.out 0 (.int .i64 kd)); replace HQ := Aside0.mk (Kd.Q_set HQ.out BP.out (by decide) 0 (.int .i64 kd)); replace BQ := Aside0.mk (blk_far BQ.out (p := ⟨p, 0, none⟩) (hne.symm) (.int .i64 kd)); replace BP := HN_; clear HN_; replace HB := Aside0.mk (below_set (j := 0) (v := .int .i64 kd) HB.out GP.out); obtain ⟨ad10_, ea10_, hx10_⟩ := Kd.at_string (Kd.Q_reads' HQ.out).2.2 0 (by decide) (by omega); cases ea10_; (try rw [show ((0 : Int)).toNat = 0 from rfl] at hx10_); (try rw [Addr.add_zero'] at hx10_); rw [Hx0.out] at hx10_; skip) | ((go_at_call 46); (with_reducible refine (reply_number.good x0 2147483648 n0 _ ?hl hA0 hn0 hm0).mono ?_); (case hl => exact LD.below hL HB.out); rintro e w20 ⟨rfl, hb'⟩; replace BP := Aside0.mk (blk_below BP.out hb'); replace BQ := Aside0.mk (blk_below BQ.out hb'); replace HQ := Aside0.mk (Kd.Q_below HQ.out hb'); replace HB := Aside0.mk (below_step HB.out hb'); clear hb'; have hc2_ := (blk_cell BP.out 1).trans rfl; have hz2_ := blk_frozen BP.out 1; have HN_ := Aside0.mk (show (World.setCell _ ⟨p, 1, none⟩ (.int .i64 n0)).heap[p]? = some (.cells #[.int .i64 kd, .int .i64 n0, .int .i64 0, .slice none 0 0, .slice none 0 0] 36 (0, 0)) from blk_set BP.out 1 (.int .i64 n0)); replace HQ := Aside0.mk (Kd.Q_set HQ.out BP.out (by decide) 1 (.int .i64 n0)); replace BQ := Aside0.mk (blk_far BQ.out (p := ⟨p, 1, none⟩) (hne.symm) (.int .i64 n0)); replace BP := HN_; clear HN_; replace HB := Aside0.mk (below_set (j := 1) (v := .int .i64 n0) HB.out GP.out); obtain ⟨ad11_, ea11_, hx11_⟩ := Kd.at_string (Kd.Q_reads' HQ.out).2.2 1 (by decide) (by omega); cases ea11_; simp only [show (1 : Int).toNat = 1 from rfl, Nat.reduceMul, Nat.reduceEqDiff, Go.Addr.add, ↓reduceIte] at hx11_; rw [Hx1.out] at hx11_; skip) | ((go_at_call 46); (with_reducible refine (reply_number.bad2 x1 0 n1 _ ?hl hA1 (Or.inl her)).mono ?_); (case hl => exact LD.below hL HB.out); rintro e w21 ⟨rfl, hb'⟩; replace BP := Aside0.mk (blk_below BP.out hb'); replace BQ := Aside0.mk (blk_below BQ.out hb'); replace HQ := Aside0.mk (Kd.Q_below HQ.out hb'); replace HB := Aside0.mk (below_step HB.out hb'); clear hb'; skip))
 refine leaves_cons (f := 53) (args := #[.pointer (some ⟨p, 0, none⟩), .pointer (some ⟨q, 0, none⟩)]) (by simp) (by simp [go_sem]) ?_
 refine (reply_ReadMessage.catch p q 3 _ _ _ _ _ _ _ BP.out BQ.out).mono ?_
 rintro e u' w'' ⟨rfl, rfl, w6, hb6, rfl⟩
 (try have hne : p ≠ q := blk_ne BP.out BQ.out (by decide))
 have cp0 := (blk_cell (blk_far (blk_set (blk_set (blk_set (blk_set (blk_set (blk_below BP.out hb6) 0 (.int .i64 0)) 1 (.int .i64 0)) 2 (.int .i64 0)) 3 (.slice none 0 0)) 4 (.slice none 0 0)) (p := ⟨q, 0, none⟩) hne (.int .i64 3)) 0).trans rfl
 have cp1 := (blk_cell (blk_far (blk_set (blk_set (blk_set (blk_set (blk_set (blk_below BP.out hb6) 0 (.int .i64 0)) 1 (.int .i64 0)) 2 (.int .i64 0)) 3 (.slice none 0 0)) 4 (.slice none 0 0)) (p := ⟨q, 0, none⟩) hne (.int .i64 3)) 1).trans rfl
 have cp2 := (blk_cell (blk_far (blk_set (blk_set (blk_set (blk_set (blk_set (blk_below BP.out hb6) 0 (.int .i64 0)) 1 (.int .i64 0)) 2 (.int .i64 0)) 3 (.slice none 0 0)) 4 (.slice none 0 0)) (p := ⟨q, 0, none⟩) hne (.int .i64 3)) 2).trans rfl
 have cp3 := (blk_cell (blk_far (blk_set (blk_set (blk_set (blk_set (blk_set (blk_below BP.out hb6) 0 (.int .i64 0)) 1 (.int .i64 0)) 2 (.int .i64 0)) 3 (.slice none 0 0)) 4 (.slice none 0 0)) (p := ⟨q, 0, none⟩) hne (.int .i64 3)) 3).trans rfl
 have cp4 := (blk_cell (blk_far (blk_set (blk_set (blk_set (blk_set (blk_set (blk_below BP.out hb6) 0 (.int .i64 0)) 1 (.int .i64 0)) 2 (.int .i64 0)) 3 (.slice none 0 0)) 4 (.slice none 0 0)) (p := ⟨q, 0, none⟩) hne (.int .i64 3)) 4).trans rfl
 have cq := (blk_cell (blk_set (blk_far (blk_far (blk_far (blk_far (blk_far (blk_below BQ.out hb6) (p := ⟨p, 0, none⟩) hne.symm (.int .i64 0)) (p := ⟨p, 1, none⟩) hne.symm (.int .i64 0)) (p := ⟨p, 2, none⟩) hne.symm (.int .i64 0)) (p := ⟨p, 3, none⟩) hne.symm (.slice none 0 0)) (p := ⟨p, 4, none⟩) hne.symm (.slice none 0 0)) 0 (.int .i64 3)) 0).trans rfl
 have HB2 := (below_set (j := 0) (v := .int .i64 3) (below_set (j := 4) (v := .slice none 0 0) (below_set (j := 3) (v := .slice none 0 0) (below_set (j := 2) (v := .int .i64 0) (below_set (j := 1) (v := .int .i64 0) (below_set (j := 0) (v := .int .i64 0) (below_step HB.out hb6) GP.out) GP.out) GP.out) GP.out) GP.out) GQ.out)
 simp [Leaves, settle, results, Tryz.results26, go_sem, cp0, cp1, cp2, cp3, cp4, cq, HB2]
 (try exact ⟨_, _, ⟨rfl, rfl⟩, Kd.R_nil _ _ _ _ _, Kd.R_nil _ _ _ _ _⟩)
theorem reply_ReadMessage.bad5 (k : Nat) (a0 : ByteArray) (t : List ByteArray) (ks : List ByteArray) (i : Nat) (kd n0 : Int) (n1 : Int) (rs : List (S78)) (er : Int) (w : World) (hL : LD w) (h : word_Split.f k a0 32 = some t) (hks : reply_kinds.f = some ks) (hkl : ks.length ≤ 100) (hg : reply_words.g t 3 ks 0 = some i) (hkd : (i : Int) + 1 = kd) (hA0 : sat_Read.f (rdOf ByteArray.empty t 1) = some (n0, 0)) (hn0 : 0 ≤ n0) (hm0 : (0 : Int) < 2147483648 → n0 < 2147483648) (hA1 : sat_Read.f (rdOf ByteArray.empty t 2) = some (n1, 0)) (hn1 : 0 ≤ n1) (hkk : kd = 2) (hR : diff_Parse.f k (rdOf ByteArray.empty t 3) = some (rs, er)) (her : er ≠ 0) :
 Calls Tryz.prog 26 #[.string a0] w fun e w' => ∃ v0_ v1_ : Value, e = .returned (.tuple #[.agg #[.int .i64 0, .int .i64 0, .int .i64 0, v0_, v1_], .int .i64 er]) ∧ Kd.R k60 60 w' w.heap.size (fun _ => True) v0_ [] ∧ Kd.R k78 78 w' w.heap.size (fun _ => True) v1_ [] ∧ Below w.heap.size w w' := by
 have hi := (reply_words.g_some hg).2
 have hwk : wrap64 kd = kd := by unfold wrap64; omega
 have hwn : wrap64 n0 = n0 := by have := hm0 (by decide); unfold wrap64; omega
 have hm1 : (0 : Int) < 0 → n1 < 0 := by omega
 have hkb : (kd == 2) = true := beq_iff_eq.2 hkk
 clear hkk
 obtain ⟨x0, hX0⟩ : ∃ x, x = rdOf ByteArray.empty t 1 := ⟨_, rfl⟩
 obtain ⟨x1, hX1⟩ : ∃ x, x = rdOf ByteArray.empty t 2 := ⟨_, rfl⟩
 obtain ⟨x2, hX2⟩ : ∃ x, x = rdOf ByteArray.empty t 3 := ⟨_, rfl⟩
 rw [← hX0] at hA0
 rw [← hX1] at hA1
 rw [← hX2] at hR
 have hlt := (reply_words.g_some hg).1
 obtain ⟨y, hy⟩ : ∃ y : List ByteArray, y = t.drop 1 := ⟨_, rfl⟩
 have hyl : (y.length : Int) = 3 := by rw [hy, List.length_drop]; omega
 have Hx0 := Aside0.mk (show rdOf ByteArray.empty y 0 = x0 by rw [hy, hX0]; exact reply_words.rd1 t 0)
 have q0 : ((0 : Int) < (y.length : Int)) = True := eq_true (by omega)
 have qi0 : (0 < y.length) = True := eq_true (by omega)
 have Hx1 := Aside0.mk (show rdOf ByteArray.empty y 1 = x1 by rw [hy, hX1]; exact reply_words.rd1 t 1)
 have q1 : ((1 : Int) < (y.length : Int)) = True := eq_true (by omega)
 have qi1 : (1 < y.length) = True := eq_true (by omega)
 have Hx2 := Aside0.mk (show rdOf ByteArray.empty y 2 = x2 by rw [hy, hX2]; exact reply_words.rd1 t 2)
 have q2 : ((2 : Int) < (y.length : Int)) = True := eq_true (by omega)
 have qi2 : (2 < y.length) = True := eq_true (by omega)
 have HY := Aside0.mk hy
 clear hy hX0 hX1 hX2
 have hmf : ∀ (fn : Fn) (first cap : Array Value) (w : World), (Instr.makeFunc fn first cap).run Tryz.prog w = .ok (.func fn first cap) w := fun _ _ _ _ => rfl
 have hu56 := Tryz.underlying56
 have hu33 := Tryz.underlying33
 have hu36 := Tryz.underlying36
 have HB := Aside0.mk (Below.refl w.heap.size w)
 go_enter_defers Tryz.func26, Tryz.ntmps26
 go_wp2_with (first | ((with_reducible refine gate_dst (N := 2) rfl ?_); refine bx (N := 2) #[.int .i64 0, .int .i64 0, .int .i64 0, .slice none 0 0, .slice none 0 0] 36 ?_; intro p hp w1 hk1 hb1; have BP := Aside0.mk hk1; have GP := Aside0.mk (show w.heap.size ≤ p by rw [hp]; exact HB.out.size); replace HB := Aside0.mk (below_step HB.out hb1); clear hk1 hp hb1) | ((with_reducible refine gate_dst (N := 3) rfl ?_); refine bx (N := 3) #[.int .i64 0] 22 ?_; intro q hq w2 hk1 hb1; have BQ := Aside0.mk hk1; have GQ := Aside0.mk (show w.heap.size ≤ q by rw [hq]; exact HB.out.size); replace BP := Aside0.mk (blk_below BP.out hb1); replace HB := Aside0.mk (below_step HB.out hb1); clear hk1 hq hb1) | ((go_at_call 41); (with_reducible refine (reply_kinds.calls ks _ hks).mono ?_); rintro e w4 ⟨v4_, rfl, ho4, hb4⟩; have HO4 := Aside0.mk ho4; replace BP := Aside0.mk (blk_below BP.out hb4); replace BQ := Aside0.mk (blk_below BQ.out hb4); replace HB := Aside0.mk (below_step HB.out hb4); obtain ⟨A4, c4, e4⟩ := Kd.R_slice ho4; subst e4; clear ho4 hb4) | ((go_at_call 45); (with_reducible refine (reply_words.both k a0 3 (by decide) A4 c4 ks t _ (Kd.R_reads' HO4.out).2.2 (Kd.R_reads' HO4.out).2.1 hkl h).mono ?_); rintro e w5 ⟨ho, hb⟩; rw [hg] at ho; obtain ⟨v1_, rfl, hq⟩ := ho; have hb' := hb; replace BP := Aside0.mk (blk_below BP.out hb'); replace BQ := Aside0.mk (blk_below BQ.out hb'); replace HB := Aside0.mk (below_step HB.out hb'); rw [← HY.out] at hq; obtain ⟨A5, c5, e5, _⟩ := Kd.Q_slice hq; subst e5; have HQ := Aside0.mk hq; clear hq hb hb'; have hne := blk_ne BP.out BQ.out (by decide); have hc1_ := (blk_cell BP.out 0).trans rfl; have hz1_ := blk_frozen BP.out 0; have HN_ := Aside0.mk (show (World.setCell _ ⟨p, 0, none⟩ (.int .i64 kd)).heap[p]? = some (.cells #[.int .i64 kd, .int .i64 0, .int .i64 0, .slice none 0 0, .slice none 0 0] 36 (0, 0)) from blk_set BP.out 0 (.int .i64 kd)); replace HQ := Aside0.mk (Kd.Q_set HQ.out BP.out (by decide) 0 (.int .i64 kd)); replace BQ := Aside0.mk (blk_far BQ.out (p := ⟨p, 0, none⟩) (hne.symm) (.int .i64 kd)); replace BP := HN_; clear HN_; replace HB := Aside0.mk (below_set (j := 0) (v := .int .i64 kd) HB.out GP.out); obtain ⟨ad10_, ea10_, hx10_⟩ := Kd.at_string (Kd.Q_reads' HQ.out).2.2 0 (by decide) (by omega); cases ea10_; (try rw [show ((0 : Int)).toNat = 0 from rfl] at hx10_); (try rw [Addr.add_zero'] at hx10_); rw [Hx0.out] at hx10_; skip) | ((go_at_call 46); (with_reducible refine (reply_number.good x0 2147483648 n0 _ ?hl hA0 hn0 hm0).mono ?_); (case hl => exact LD.below hL HB.out); rintro e w20 ⟨rfl, hb'⟩; replace BP := Aside0.mk (blk_below BP.out hb'); replace BQ := Aside0.mk (blk_below BQ.out hb'); replace HQ := Aside0.mk (Kd.Q_below HQ.out hb'); replace HB := Aside0.mk (below_step HB.out hb'); clear hb'; have hc2_ := (blk_cell BP.out 1).trans rfl; have hz2_ := blk_frozen BP.out 1; have HN_ := Aside0.mk (show (World.setCell _ ⟨p, 1, none⟩ (.int .i64 n0)).heap[p]? = some (.cells #[.int .i64 kd, .int .i64 n0, .int .i64 0, .slice none 0 0, .slice none 0 0] 36 (0, 0)) from blk_set BP.out 1 (.int .i64 n0)); replace HQ := Aside0.mk (Kd.Q_set HQ.out BP.out (by decide) 1 (.int .i64 n0)); replace BQ := Aside0.mk (blk_far BQ.out (p := ⟨p, 1, none⟩) (hne.symm) (.int .i64 n0)); replace BP := HN_; clear HN_; replace HB := Aside0.mk (below_set (j := 1) (v := .int .i64 n0) HB.out GP.out); obtain ⟨ad11_, ea11_, hx11_⟩ := Kd.at_string (Kd.Q_reads' HQ.out).2.2 1 (by decide) (by omega); cases ea11_; simp only [show (1 : Int).toNat = 1 from rfl, Nat.reduceMul, Nat.reduceEqDiff, Go.Addr.add, ↓reduceIte] at hx11_; rw [Hx1.out] at hx11_; skip) | ((go_at_call 46); (with_reducible refine (reply_number.good x1 0 n1 _ ?hl hA1 hn1 hm1).mono ?_); (case hl => exact LD.below hL HB.out); rintro e w21 ⟨rfl, hb'⟩; replace BP := Aside0.mk (blk_below BP.out hb'); replace BQ := Aside0.mk (blk_below BQ.out hb'); replace HQ := Aside0.mk (Kd.Q_below HQ.out hb'); replace HB := Aside0.mk (below_step HB.out hb'); clear hb'; have hc3_ := (blk_cell BP.out 2).trans rfl; have hz3_ := blk_frozen BP.out 2; have HN_ := Aside0.mk (show (World.setCell _ ⟨p, 2, none⟩ (.int .i64 n1)).heap[p]? = some (.cells #[.int .i64 kd, .int .i64 n0, .int .i64 n1, .slice none 0 0, .slice none 0 0] 36 (0, 0)) from blk_set BP.out 2 (.int .i64 n1)); replace HQ := Aside0.mk (Kd.Q_set HQ.out BP.out (by decide) 2 (.int .i64 n1)); replace BQ := Aside0.mk (blk_far BQ.out (p := ⟨p, 2, none⟩) (hne.symm) (.int .i64 n1)); replace BP := HN_; clear HN_; replace HB := Aside0.mk (below_set (j := 2) (v := .int .i64 n1) HB.out GP.out); have hlk_ := (blk_cell BP.out 0).trans rfl; obtain ⟨ad12_, ea12_, hx12_⟩ := Kd.at_string (Kd.Q_reads' HQ.out).2.2 2 (by decide) (by omega); cases ea12_; simp only [show (2 : Int).toNat = 2 from rfl, Nat.reduceMul, Nat.reduceEqDiff, Go.Addr.add, ↓reduceIte] at hx12_; rw [Hx2.out] at hx12_; skip) | ((go_at_call 54); (with_reducible refine (diff_Parse.calls k x2 rs er _ ?hl hR).mono ?_); (case hl => exact LD.below hL HB.out); rintro e w7 ⟨v7_, rfl, ho7, hb'⟩; have ho8 := Kd.R_lower ho7 (below_size HB.out); replace BP := Aside0.mk (blk_below BP.out hb'); replace BQ := Aside0.mk (blk_below BQ.out hb'); replace HQ := Aside0.mk (Kd.Q_below HQ.out hb'); replace HB := Aside0.mk (below_step HB.out hb'); have HO := Aside0.mk ho8; obtain ⟨A7, c7, e7⟩ := Kd.R_slice ho8; subst e7; clear ho7 ho8 hb'; have hc50_ := (blk_cell BP.out 4).trans rfl; have hz50_ := blk_frozen BP.out 4; have HN_ := Aside0.mk (show (World.setCell _ ⟨p, 4, none⟩ (.slice A7 rs.length c7)).heap[p]? = some (.cells #[.int .i64 kd, .int .i64 n0, .int .i64 n1, .slice none 0 0, .slice A7 rs.length c7] 36 (0, 0)) from blk_set BP.out 4 (.slice A7 rs.length c7)); replace HQ := Aside0.mk (Kd.Q_set HQ.out BP.out (by decide) 4 (.slice A7 rs.length c7)); replace HO := Aside0.mk (Kd.R_set HO.out BP.out (by decide) 4 (.slice A7 rs.length c7)); replace BQ := Aside0.mk (blk_far BQ.out (p := ⟨p, 4, none⟩) (hne.symm) (.slice A7 rs.length c7)); replace BP := HN_; clear HN_; replace HB := Aside0.mk (below_set (j := 4) (v := .slice A7 rs.length c7) HB.out GP.out); have hc51_ := (blk_cell BQ.out 0).trans rfl; have hz51_ := blk_frozen BQ.out 0; have HN_ := Aside0.mk (show (World.setCell _ ⟨q, 0, none⟩ (.int .i64 er)).heap[q]? = some (.cells #[.int .i64 er] 22 (0, 0)) from blk_set BQ.out 0 (.int .i64 er)); replace HQ := Aside0.mk (Kd.Q_set HQ.out BQ.out (by decide) 0 (.int .i64 er)); replace HO := Aside0.mk (Kd.R_set HO.out BQ.out (by decide) 0 (.int .i64 er)); replace BP := Aside0.mk (blk_far BP.out (p := ⟨q, 0, none⟩) (hne) (.int .i64 er)); replace BQ := HN_; clear HN_; replace HB := Aside0.mk (below_set (j := 0) (v := .int .i64 er) HB.out GQ.out); have hl60_ := (blk_cell BQ.out 0).trans rfl; skip) | ((go_at_call 51); (with_reducible refine (reply_must.bad er her _).mono ?_); rintro e w8 ⟨rfl, rfl⟩))
 refine leaves_cons (f := 53) (args := #[.pointer (some ⟨p, 0, none⟩), .pointer (some ⟨q, 0, none⟩)]) (by simp) (by simp [go_sem]) ?_
 refine (reply_ReadMessage.catch p q er _ _ _ _ _ _ _ BP.out BQ.out).mono ?_
 rintro e u' w'' ⟨rfl, rfl, w6, hb6, rfl⟩
 (try have hne : p ≠ q := blk_ne BP.out BQ.out (by decide))
 have cp0 := (blk_cell (blk_far (blk_set (blk_set (blk_set (blk_set (blk_set (blk_below BP.out hb6) 0 (.int .i64 0)) 1 (.int .i64 0)) 2 (.int .i64 0)) 3 (.slice none 0 0)) 4 (.slice none 0 0)) (p := ⟨q, 0, none⟩) hne (.int .i64 er)) 0).trans rfl
 have cp1 := (blk_cell (blk_far (blk_set (blk_set (blk_set (blk_set (blk_set (blk_below BP.out hb6) 0 (.int .i64 0)) 1 (.int .i64 0)) 2 (.int .i64 0)) 3 (.slice none 0 0)) 4 (.slice none 0 0)) (p := ⟨q, 0, none⟩) hne (.int .i64 er)) 1).trans rfl
 have cp2 := (blk_cell (blk_far (blk_set (blk_set (blk_set (blk_set (blk_set (blk_below BP.out hb6) 0 (.int .i64 0)) 1 (.int .i64 0)) 2 (.int .i64 0)) 3 (.slice none 0 0)) 4 (.slice none 0 0)) (p := ⟨q, 0, none⟩) hne (.int .i64 er)) 2).trans rfl
 have cp3 := (blk_cell (blk_far (blk_set (blk_set (blk_set (blk_set (blk_set (blk_below BP.out hb6) 0 (.int .i64 0)) 1 (.int .i64 0)) 2 (.int .i64 0)) 3 (.slice none 0 0)) 4 (.slice none 0 0)) (p := ⟨q, 0, none⟩) hne (.int .i64 er)) 3).trans rfl
 have cp4 := (blk_cell (blk_far (blk_set (blk_set (blk_set (blk_set (blk_set (blk_below BP.out hb6) 0 (.int .i64 0)) 1 (.int .i64 0)) 2 (.int .i64 0)) 3 (.slice none 0 0)) 4 (.slice none 0 0)) (p := ⟨q, 0, none⟩) hne (.int .i64 er)) 4).trans rfl
 have cq := (blk_cell (blk_set (blk_far (blk_far (blk_far (blk_far (blk_far (blk_below BQ.out hb6) (p := ⟨p, 0, none⟩) hne.symm (.int .i64 0)) (p := ⟨p, 1, none⟩) hne.symm (.int .i64 0)) (p := ⟨p, 2, none⟩) hne.symm (.int .i64 0)) (p := ⟨p, 3, none⟩) hne.symm (.slice none 0 0)) (p := ⟨p, 4, none⟩) hne.symm (.slice none 0 0)) 0 (.int .i64 er)) 0).trans rfl
 have HB2 := (below_set (j := 0) (v := .int .i64 er) (below_set (j := 4) (v := .slice none 0 0) (below_set (j := 3) (v := .slice none 0 0) (below_set (j := 2) (v := .int .i64 0) (below_set (j := 1) (v := .int .i64 0) (below_set (j := 0) (v := .int .i64 0) (below_step HB.out hb6) GP.out) GP.out) GP.out) GP.out) GP.out) GQ.out)
 simp [Leaves, settle, results, Tryz.results26, go_sem, cp0, cp1, cp2, cp3, cp4, cq, HB2]
 (try exact ⟨_, _, ⟨rfl, rfl⟩, Kd.R_nil _ _ _ _ _, Kd.R_nil _ _ _ _ _⟩)
theorem reply_ReadMessage.good5 (k : Nat) (a0 : ByteArray) (t : List ByteArray) (ks : List ByteArray) (i : Nat) (kd n0 : Int) (n1 : Int) (rs : List (S78)) (w : World) (hL : LD w) (h : word_Split.f k a0 32 = some t) (hks : reply_kinds.f = some ks) (hkl : ks.length ≤ 100) (hg : reply_words.g t 3 ks 0 = some i) (hkd : (i : Int) + 1 = kd) (hA0 : sat_Read.f (rdOf ByteArray.empty t 1) = some (n0, 0)) (hn0 : 0 ≤ n0) (hm0 : (0 : Int) < 2147483648 → n0 < 2147483648) (hA1 : sat_Read.f (rdOf ByteArray.empty t 2) = some (n1, 0)) (hn1 : 0 ≤ n1) (hkk : kd = 2) (hR : diff_Parse.f k (rdOf ByteArray.empty t 3) = some (rs, 0)) :
 Calls Tryz.prog 26 #[.string a0] w fun e w' => ∃ v0_ v1_ : Value, e = .returned (.tuple #[.agg #[.int .i64 kd, .int .i64 n0, .int .i64 n1, v0_, v1_], .int .i64 0]) ∧ Kd.R k60 60 w' w.heap.size (fun _ => True) v0_ [] ∧ Kd.R k78 78 w' w.heap.size (fun _ => True) v1_ rs ∧ Below w.heap.size w w' := by
 have hi := (reply_words.g_some hg).2
 have hwk : wrap64 kd = kd := by unfold wrap64; omega
 have hwn : wrap64 n0 = n0 := by have := hm0 (by decide); unfold wrap64; omega
 have hm1 : (0 : Int) < 0 → n1 < 0 := by omega
 have hkb : (kd == 2) = true := beq_iff_eq.2 hkk
 clear hkk
 obtain ⟨x0, hX0⟩ : ∃ x, x = rdOf ByteArray.empty t 1 := ⟨_, rfl⟩
 obtain ⟨x1, hX1⟩ : ∃ x, x = rdOf ByteArray.empty t 2 := ⟨_, rfl⟩
 obtain ⟨x2, hX2⟩ : ∃ x, x = rdOf ByteArray.empty t 3 := ⟨_, rfl⟩
 rw [← hX0] at hA0
 rw [← hX1] at hA1
 rw [← hX2] at hR
 have hlt := (reply_words.g_some hg).1
 obtain ⟨y, hy⟩ : ∃ y : List ByteArray, y = t.drop 1 := ⟨_, rfl⟩
 have hyl : (y.length : Int) = 3 := by rw [hy, List.length_drop]; omega
 have Hx0 := Aside0.mk (show rdOf ByteArray.empty y 0 = x0 by rw [hy, hX0]; exact reply_words.rd1 t 0)
 have q0 : ((0 : Int) < (y.length : Int)) = True := eq_true (by omega)
 have qi0 : (0 < y.length) = True := eq_true (by omega)
 have Hx1 := Aside0.mk (show rdOf ByteArray.empty y 1 = x1 by rw [hy, hX1]; exact reply_words.rd1 t 1)
 have q1 : ((1 : Int) < (y.length : Int)) = True := eq_true (by omega)
 have qi1 : (1 < y.length) = True := eq_true (by omega)
 have Hx2 := Aside0.mk (show rdOf ByteArray.empty y 2 = x2 by rw [hy, hX2]; exact reply_words.rd1 t 2)
 have q2 : ((2 : Int) < (y.length : Int)) = True := eq_true (by omega)
 have qi2 : (2 < y.length) = True := eq_true (by omega)
 have HY := Aside0.mk hy
 clear hy hX0 hX1 hX2
 have hmf : ∀ (fn : Fn) (first cap : Array Value) (w : World), (Instr.makeFunc fn first cap).run Tryz.prog w = .ok (.func fn first cap) w := fun _ _ _ _ => rfl
 have hu56 := Tryz.underlying56
 have hu33 := Tryz.underlying33
 have hu36 := Tryz.underlying36
 have HB := Aside0.mk (Below.refl w.heap.size w)
 go_enter_defers Tryz.func26, Tryz.ntmps26
 go_wp2_with (first | ((with_reducible refine gate_dst (N := 2) rfl ?_); refine bx (N := 2) #[.int .i64 0, .int .i64 0, .int .i64 0, .slice none 0 0, .slice none 0 0] 36 ?_; intro p hp w1 hk1 hb1; have BP := Aside0.mk hk1; have GP := Aside0.mk (show w.heap.size ≤ p by rw [hp]; exact HB.out.size); replace HB := Aside0.mk (below_step HB.out hb1); clear hk1 hp hb1) | ((with_reducible refine gate_dst (N := 3) rfl ?_); refine bx (N := 3) #[.int .i64 0] 22 ?_; intro q hq w2 hk1 hb1; have BQ := Aside0.mk hk1; have GQ := Aside0.mk (show w.heap.size ≤ q by rw [hq]; exact HB.out.size); replace BP := Aside0.mk (blk_below BP.out hb1); replace HB := Aside0.mk (below_step HB.out hb1); clear hk1 hq hb1) | ((go_at_call 41); (with_reducible refine (reply_kinds.calls ks _ hks).mono ?_); rintro e w4 ⟨v4_, rfl, ho4, hb4⟩; have HO4 := Aside0.mk ho4; replace BP := Aside0.mk (blk_below BP.out hb4); replace BQ := Aside0.mk (blk_below BQ.out hb4); replace HB := Aside0.mk (below_step HB.out hb4); obtain ⟨A4, c4, e4⟩ := Kd.R_slice ho4; subst e4; clear ho4 hb4) | ((go_at_call 45); (with_reducible refine (reply_words.both k a0 3 (by decide) A4 c4 ks t _ (Kd.R_reads' HO4.out).2.2 (Kd.R_reads' HO4.out).2.1 hkl h).mono ?_); rintro e w5 ⟨ho, hb⟩; rw [hg] at ho; obtain ⟨v1_, rfl, hq⟩ := ho; have hb' := hb; replace BP := Aside0.mk (blk_below BP.out hb'); replace BQ := Aside0.mk (blk_below BQ.out hb'); replace HB := Aside0.mk (below_step HB.out hb'); rw [← HY.out] at hq; obtain ⟨A5, c5, e5, _⟩ := Kd.Q_slice hq; subst e5; have HQ := Aside0.mk hq; clear hq hb hb'; have hne := blk_ne BP.out BQ.out (by decide); have hc1_ := (blk_cell BP.out 0).trans rfl; have hz1_ := blk_frozen BP.out 0; have HN_ := Aside0.mk (show (World.setCell _ ⟨p, 0, none⟩ (.int .i64 kd)).heap[p]? = some (.cells #[.int .i64 kd, .int .i64 0, .int .i64 0, .slice none 0 0, .slice none 0 0] 36 (0, 0)) from blk_set BP.out 0 (.int .i64 kd)); replace HQ := Aside0.mk (Kd.Q_set HQ.out BP.out (by decide) 0 (.int .i64 kd)); replace BQ := Aside0.mk (blk_far BQ.out (p := ⟨p, 0, none⟩) (hne.symm) (.int .i64 kd)); replace BP := HN_; clear HN_; replace HB := Aside0.mk (below_set (j := 0) (v := .int .i64 kd) HB.out GP.out); obtain ⟨ad10_, ea10_, hx10_⟩ := Kd.at_string (Kd.Q_reads' HQ.out).2.2 0 (by decide) (by omega); cases ea10_; (try rw [show ((0 : Int)).toNat = 0 from rfl] at hx10_); (try rw [Addr.add_zero'] at hx10_); rw [Hx0.out] at hx10_; skip) | ((go_at_call 46); (with_reducible refine (reply_number.good x0 2147483648 n0 _ ?hl hA0 hn0 hm0).mono ?_); (case hl => exact LD.below hL HB.out); rintro e w20 ⟨rfl, hb'⟩; replace BP := Aside0.mk (blk_below BP.out hb'); replace BQ := Aside0.mk (blk_below BQ.out hb'); replace HQ := Aside0.mk (Kd.Q_below HQ.out hb'); replace HB := Aside0.mk (below_step HB.out hb'); clear hb'; have hc2_ := (blk_cell BP.out 1).trans rfl; have hz2_ := blk_frozen BP.out 1; have HN_ := Aside0.mk (show (World.setCell _ ⟨p, 1, none⟩ (.int .i64 n0)).heap[p]? = some (.cells #[.int .i64 kd, .int .i64 n0, .int .i64 0, .slice none 0 0, .slice none 0 0] 36 (0, 0)) from blk_set BP.out 1 (.int .i64 n0)); replace HQ := Aside0.mk (Kd.Q_set HQ.out BP.out (by decide) 1 (.int .i64 n0)); replace BQ := Aside0.mk (blk_far BQ.out (p := ⟨p, 1, none⟩) (hne.symm) (.int .i64 n0)); replace BP := HN_; clear HN_; replace HB := Aside0.mk (below_set (j := 1) (v := .int .i64 n0) HB.out GP.out); obtain ⟨ad11_, ea11_, hx11_⟩ := Kd.at_string (Kd.Q_reads' HQ.out).2.2 1 (by decide) (by omega); cases ea11_; simp only [show (1 : Int).toNat = 1 from rfl, Nat.reduceMul, Nat.reduceEqDiff, Go.Addr.add, ↓reduceIte] at hx11_; rw [Hx1.out] at hx11_; skip) | ((go_at_call 46); (with_reducible refine (reply_number.good x1 0 n1 _ ?hl hA1 hn1 hm1).mono ?_); (case hl => exact LD.below hL HB.out); rintro e w21 ⟨rfl, hb'⟩; replace BP := Aside0.mk (blk_below BP.out hb'); replace BQ := Aside0.mk (blk_below BQ.out hb'); replace HQ := Aside0.mk (Kd.Q_below HQ.out hb'); replace HB := Aside0.mk (below_step HB.out hb'); clear hb'; have hc3_ := (blk_cell BP.out 2).trans rfl; have hz3_ := blk_frozen BP.out 2; have HN_ := Aside0.mk (show (World.setCell _ ⟨p, 2, none⟩ (.int .i64 n1)).heap[p]? = some (.cells #[.int .i64 kd, .int .i64 n0, .int .i64 n1, .slice none 0 0, .slice none 0 0] 36 (0, 0)) from blk_set BP.out 2 (.int .i64 n1)); replace HQ := Aside0.mk (Kd.Q_set HQ.out BP.out (by decide) 2 (.int .i64 n1)); replace BQ := Aside0.mk (blk_far BQ.out (p := ⟨p, 2, none⟩) (hne.symm) (.int .i64 n1)); replace BP := HN_; clear HN_; replace HB := Aside0.mk (below_set (j := 2) (v := .int .i64 n1) HB.out GP.out); have hlk_ := (blk_cell BP.out 0).trans rfl; obtain ⟨ad12_, ea12_, hx12_⟩ := Kd.at_string (Kd.Q_reads' HQ.out).2.2 2 (by decide) (by omega); cases ea12_; simp only [show (2 : Int).toNat = 2 from rfl, Nat.reduceMul, Nat.reduceEqDiff, Go.Addr.add, ↓reduceIte] at hx12_; rw [Hx2.out] at hx12_; skip) | ((go_at_call 54); (with_reducible refine (diff_Parse.calls k x2 rs 0 _ ?hl hR).mono ?_); (case hl => exact LD.below hL HB.out); rintro e w7 ⟨v7_, rfl, ho7, hb'⟩; have ho8 := Kd.R_lower ho7 (below_size HB.out); replace BP := Aside0.mk (blk_below BP.out hb'); replace BQ := Aside0.mk (blk_below BQ.out hb'); replace HQ := Aside0.mk (Kd.Q_below HQ.out hb'); replace HB := Aside0.mk (below_step HB.out hb'); have HO := Aside0.mk ho8; obtain ⟨A7, c7, e7⟩ := Kd.R_slice ho8; subst e7; clear ho7 ho8 hb'; have hc50_ := (blk_cell BP.out 4).trans rfl; have hz50_ := blk_frozen BP.out 4; have HN_ := Aside0.mk (show (World.setCell _ ⟨p, 4, none⟩ (.slice A7 rs.length c7)).heap[p]? = some (.cells #[.int .i64 kd, .int .i64 n0, .int .i64 n1, .slice none 0 0, .slice A7 rs.length c7] 36 (0, 0)) from blk_set BP.out 4 (.slice A7 rs.length c7)); replace HQ := Aside0.mk (Kd.Q_set HQ.out BP.out (by decide) 4 (.slice A7 rs.length c7)); replace HO := Aside0.mk (Kd.R_set HO.out BP.out (by decide) 4 (.slice A7 rs.length c7)); replace BQ := Aside0.mk (blk_far BQ.out (p := ⟨p, 4, none⟩) (hne.symm) (.slice A7 rs.length c7)); replace BP := HN_; clear HN_; replace HB := Aside0.mk (below_set (j := 4) (v := .slice A7 rs.length c7) HB.out GP.out); have hc51_ := (blk_cell BQ.out 0).trans rfl; have hz51_ := blk_frozen BQ.out 0; have HN_ := Aside0.mk (show (World.setCell _ ⟨q, 0, none⟩ (.int .i64 0)).heap[q]? = some (.cells #[.int .i64 0] 22 (0, 0)) from blk_set BQ.out 0 (.int .i64 0)); replace HQ := Aside0.mk (Kd.Q_set HQ.out BQ.out (by decide) 0 (.int .i64 0)); replace HO := Aside0.mk (Kd.R_set HO.out BQ.out (by decide) 0 (.int .i64 0)); replace BP := Aside0.mk (blk_far BP.out (p := ⟨q, 0, none⟩) (hne) (.int .i64 0)); replace BQ := HN_; clear HN_; replace HB := Aside0.mk (below_set (j := 0) (v := .int .i64 0) HB.out GQ.out); have hl60_ := (blk_cell BQ.out 0).trans rfl; have hl61_ := (blk_cell BP.out 0).trans rfl; have hl62_ := (blk_cell BP.out 1).trans rfl; have hl63_ := (blk_cell BP.out 2).trans rfl; have hl64_ := (blk_cell BP.out 3).trans rfl; have hl65_ := (blk_cell BP.out 4).trans rfl; have hc70_ := (blk_cell BP.out 0).trans rfl; have hz70_ := blk_frozen BP.out 0; have HN_ := Aside0.mk (show (World.setCell _ ⟨p, 0, none⟩ (.int .i64 kd)).heap[p]? = some (.cells #[.int .i64 kd, .int .i64 n0, .int .i64 n1, .slice none 0 0, .slice A7 rs.length c7] 36 (0, 0)) from blk_set BP.out 0 (.int .i64 kd)); replace HQ := Aside0.mk (Kd.Q_set HQ.out BP.out (by decide) 0 (.int .i64 kd)); replace HO := Aside0.mk (Kd.R_set HO.out BP.out (by decide) 0 (.int .i64 kd)); replace BQ := Aside0.mk (blk_far BQ.out (p := ⟨p, 0, none⟩) (hne.symm) (.int .i64 kd)); replace BP := HN_; clear HN_; replace HB := Aside0.mk (below_set (j := 0) (v := .int .i64 kd) HB.out GP.out); have hc71_ := (blk_cell BP.out 1).trans rfl; have hz71_ := blk_frozen BP.out 1; have HN_ := Aside0.mk (show (World.setCell _ ⟨p, 1, none⟩ (.int .i64 n0)).heap[p]? = some (.cells #[.int .i64 kd, .int .i64 n0, .int .i64 n1, .slice none 0 0, .slice A7 rs.length c7] 36 (0, 0)) from blk_set BP.out 1 (.int .i64 n0)); replace HQ := Aside0.mk (Kd.Q_set HQ.out BP.out (by decide) 1 (.int .i64 n0)); replace HO := Aside0.mk (Kd.R_set HO.out BP.out (by decide) 1 (.int .i64 n0)); replace BQ := Aside0.mk (blk_far BQ.out (p := ⟨p, 1, none⟩) (hne.symm) (.int .i64 n0)); replace BP := HN_; clear HN_; replace HB := Aside0.mk (below_set (j := 1) (v := .int .i64 n0) HB.out GP.out); have hc72_ := (blk_cell BP.out 2).trans rfl; have hz72_ := blk_frozen BP.out 2; have HN_ := Aside0.mk (show (World.setCell _ ⟨p, 2, none⟩ (.int .i64 n1)).heap[p]? = some (.cells #[.int .i64 kd, .int .i64 n0, .int .i64 n1, .slice none 0 0, .slice A7 rs.length c7] 36 (0, 0)) from blk_set BP.out 2 (.int .i64 n1)); replace HQ := Aside0.mk (Kd.Q_set HQ.out BP.out (by decide) 2 (.int .i64 n1)); replace HO := Aside0.mk (Kd.R_set HO.out BP.out (by decide) 2 (.int .i64 n1)); replace BQ := Aside0.mk (blk_far BQ.out (p := ⟨p, 2, none⟩) (hne.symm) (.int .i64 n1)); replace BP := HN_; clear HN_; replace HB := Aside0.mk (below_set (j := 2) (v := .int .i64 n1) HB.out GP.out); have hc73_ := (blk_cell BP.out 3).trans rfl; have hz73_ := blk_frozen BP.out 3; have HN_ := Aside0.mk (show (World.setCell _ ⟨p, 3, none⟩ (.slice none 0 0)).heap[p]? = some (.cells #[.int .i64 kd, .int .i64 n0, .int .i64 n1, .slice none 0 0, .slice A7 rs.length c7] 36 (0, 0)) from blk_set BP.out 3 (.slice none 0 0)); replace HQ := Aside0.mk (Kd.Q_set HQ.out BP.out (by decide) 3 (.slice none 0 0)); replace HO := Aside0.mk (Kd.R_set HO.out BP.out (by decide) 3 (.slice none 0 0)); replace BQ := Aside0.mk (blk_far BQ.out (p := ⟨p, 3, none⟩) (hne.symm) (.slice none 0 0)); replace BP := HN_; clear HN_; replace HB := Aside0.mk (below_set (j := 3) (v := .slice none 0 0) HB.out GP.out); have hc74_ := (blk_cell BP.out 4).trans rfl; have hz74_ := blk_frozen BP.out 4; have HN_ := Aside0.mk (show (World.setCell _ ⟨p, 4, none⟩ (.slice A7 rs.length c7)).heap[p]? = some (.cells #[.int .i64 kd, .int .i64 n0, .int .i64 n1, .slice none 0 0, .slice A7 rs.length c7] 36 (0, 0)) from blk_set BP.out 4 (.slice A7 rs.length c7)); replace HQ := Aside0.mk (Kd.Q_set HQ.out BP.out (by decide) 4 (.slice A7 rs.length c7)); replace HO := Aside0.mk (Kd.R_set HO.out BP.out (by decide) 4 (.slice A7 rs.length c7)); replace BQ := Aside0.mk (blk_far BQ.out (p := ⟨p, 4, none⟩) (hne.symm) (.slice A7 rs.length c7)); replace BP := HN_; clear HN_; replace HB := Aside0.mk (below_set (j := 4) (v := .slice A7 rs.length c7) HB.out GP.out); have hc80_ := (blk_cell BQ.out 0).trans rfl; have hz80_ := blk_frozen BQ.out 0; have HN_ := Aside0.mk (show (World.setCell _ ⟨q, 0, none⟩ (.int .i64 0)).heap[q]? = some (.cells #[.int .i64 0] 22 (0, 0)) from blk_set BQ.out 0 (.int .i64 0)); replace HQ := Aside0.mk (Kd.Q_set HQ.out BQ.out (by decide) 0 (.int .i64 0)); replace HO := Aside0.mk (Kd.R_set HO.out BQ.out (by decide) 0 (.int .i64 0)); replace BP := Aside0.mk (blk_far BP.out (p := ⟨q, 0, none⟩) (hne) (.int .i64 0)); replace BQ := HN_; clear HN_; replace HB := Aside0.mk (below_set (j := 0) (v := .int .i64 0) HB.out GQ.out); skip) | ((go_at_call 51); (with_reducible refine (reply_must.good _).mono ?_); rintro e w8 ⟨rfl, rfl⟩))
 refine leaves_cons (f := 53) (args := #[.pointer (some ⟨p, 0, none⟩), .pointer (some ⟨q, 0, none⟩)]) (by simp) (by simp [go_sem]) ?_
 refine (reply_ReadMessage.idle p q _).mono ?_
 rintro e u' w'' ⟨rfl, rfl, rfl⟩
 have cp0 := (blk_cell BP.out 0).trans rfl
 have cp1 := (blk_cell BP.out 1).trans rfl
 have cp2 := (blk_cell BP.out 2).trans rfl
 have cp3 := (blk_cell BP.out 3).trans rfl
 have cp4 := (blk_cell BP.out 4).trans rfl
 have cq := (blk_cell BQ.out 0).trans rfl
 simp [Leaves, settle, results, Tryz.results26, go_sem, cp0, cp1, cp2, cp3, cp4, cq, HB.out]
 (try exact ⟨_, _, ⟨rfl, rfl⟩, Kd.R_nil _ _ _ _ _, HO.out⟩)
theorem reply_ReadMessage.bad6 (k : Nat) (a0 : ByteArray) (t : List ByteArray) (ks : List ByteArray) (i : Nat) (kd n0 : Int) (n1 : Int) (rs : List (S60)) (er : Int) (w : World) (hL : LD w) (h : word_Split.f k a0 32 = some t) (hks : reply_kinds.f = some ks) (hkl : ks.length ≤ 100) (hg : reply_words.g t 3 ks 0 = some i) (hkd : (i : Int) + 1 = kd) (hA0 : sat_Read.f (rdOf ByteArray.empty t 1) = some (n0, 0)) (hn0 : 0 ≤ n0) (hm0 : (0 : Int) < 2147483648 → n0 < 2147483648) (hA1 : sat_Read.f (rdOf ByteArray.empty t 2) = some (n1, 0)) (hn1 : 0 ≤ n1) (hkk : kd ≠ 2) (hR : row_Parse.f k (rdOf ByteArray.empty t 3) = some (rs, er)) (her : er ≠ 0) :
 Calls Tryz.prog 26 #[.string a0] w fun e w' => ∃ v0_ v1_ : Value, e = .returned (.tuple #[.agg #[.int .i64 0, .int .i64 0, .int .i64 0, v0_, v1_], .int .i64 er]) ∧ Kd.R k60 60 w' w.heap.size (fun _ => True) v0_ [] ∧ Kd.R k78 78 w' w.heap.size (fun _ => True) v1_ [] ∧ Below w.heap.size w w' := by
 have hi := (reply_words.g_some hg).2
 have hwk : wrap64 kd = kd := by unfold wrap64; omega
 have hwn : wrap64 n0 = n0 := by have := hm0 (by decide); unfold wrap64; omega
 have hm1 : (0 : Int) < 0 → n1 < 0 := by omega
 have hkb : (kd == 2) = false := beq_eq_false_iff_ne.2 hkk
 clear hkk
 obtain ⟨x0, hX0⟩ : ∃ x, x = rdOf ByteArray.empty t 1 := ⟨_, rfl⟩
 obtain ⟨x1, hX1⟩ : ∃ x, x = rdOf ByteArray.empty t 2 := ⟨_, rfl⟩
 obtain ⟨x2, hX2⟩ : ∃ x, x = rdOf ByteArray.empty t 3 := ⟨_, rfl⟩
 rw [← hX0] at hA0
 rw [← hX1] at hA1
 rw [← hX2] at hR
 have hlt := (reply_words.g_some hg).1
 obtain ⟨y, hy⟩ : ∃ y : List ByteArray, y = t.drop 1 := ⟨_, rfl⟩
 have hyl : (y.length : Int) = 3 := by rw [hy, List.length_drop]; omega
 have Hx0 := Aside0.mk (show rdOf ByteArray.empty y 0 = x0 by rw [hy, hX0]; exact reply_words.rd1 t 0)
 have q0 : ((0 : Int) < (y.length : Int)) = True := eq_true (by omega)
 have qi0 : (0 < y.length) = True := eq_true (by omega)
 have Hx1 := Aside0.mk (show rdOf ByteArray.empty y 1 = x1 by rw [hy, hX1]; exact reply_words.rd1 t 1)
 have q1 : ((1 : Int) < (y.length : Int)) = True := eq_true (by omega)
 have qi1 : (1 < y.length) = True := eq_true (by omega)
 have Hx2 := Aside0.mk (show rdOf ByteArray.empty y 2 = x2 by rw [hy, hX2]; exact reply_words.rd1 t 2)
 have q2 : ((2 : Int) < (y.length : Int)) = True := eq_true (by omega)
 have qi2 : (2 < y.length) = True := eq_true (by omega)
 have HY := Aside0.mk hy
 clear hy hX0 hX1 hX2
 have hmf : ∀ (fn : Fn) (first cap : Array Value) (w : World), (Instr.makeFunc fn first cap).run Tryz.prog w = .ok (.func fn first cap) w := fun _ _ _ _ => rfl
 have hu56 := Tryz.underlying56
 have hu33 := Tryz.underlying33
 have hu36 := Tryz.underlying36
 have HB := Aside0.mk (Below.refl w.heap.size w)
 go_enter_defers Tryz.func26, Tryz.ntmps26
 go_wp2_with (first | ((with_reducible refine gate_dst (N := 2) rfl ?_); refine bx (N := 2) #[.int .i64 0, .int .i64 0, .int .i64 0, .slice none 0 0, .slice none 0 0] 36 ?_; intro p hp w1 hk1 hb1; have BP := Aside0.mk hk1; have GP := Aside0.mk (show w.heap.size ≤ p by rw [hp]; exact HB.out.size); replace HB := Aside0.mk (below_step HB.out hb1); clear hk1 hp hb1) | ((with_reducible refine gate_dst (N := 3) rfl ?_); refine bx (N := 3) #[.int .i64 0] 22 ?_; intro q hq w2 hk1 hb1; have BQ := Aside0.mk hk1; have GQ := Aside0.mk (show w.heap.size ≤ q by rw [hq]; exact HB.out.size); replace BP := Aside0.mk (blk_below BP.out hb1); replace HB := Aside0.mk (below_step HB.out hb1); clear hk1 hq hb1) | ((go_at_call 41); (with_reducible refine (reply_kinds.calls ks _ hks).mono ?_); rintro e w4 ⟨v4_, rfl, ho4, hb4⟩; have HO4 := Aside0.mk ho4; replace BP := Aside0.mk (blk_below BP.out hb4); replace BQ := Aside0.mk (blk_below BQ.out hb4); replace HB := Aside0.mk (below_step HB.out hb4); obtain ⟨A4, c4, e4⟩ := Kd.R_slice ho4; subst e4; clear ho4 hb4) | ((go_at_call 45); (with_reducible refine (reply_words.both k a0 3 (by decide) A4 c4 ks t _ (Kd.R_reads' HO4.out).2.2 (Kd.R_reads' HO4.out).2.1 hkl h).mono ?_); rintro e w5 ⟨ho, hb⟩; rw [hg] at ho; obtain ⟨v1_, rfl, hq⟩ := ho; have hb' := hb; replace BP := Aside0.mk (blk_below BP.out hb'); replace BQ := Aside0.mk (blk_below BQ.out hb'); replace HB := Aside0.mk (below_step HB.out hb'); rw [← HY.out] at hq; obtain ⟨A5, c5, e5, _⟩ := Kd.Q_slice hq; subst e5; have HQ := Aside0.mk hq; clear hq hb hb'; have hne := blk_ne BP.out BQ.out (by decide); have hc1_ := (blk_cell BP.out 0).trans rfl; have hz1_ := blk_frozen BP.out 0; have HN_ := Aside0.mk (show (World.setCell _ ⟨p, 0, none⟩ (.int .i64 kd)).heap[p]? = some (.cells #[.int .i64 kd, .int .i64 0, .int .i64 0, .slice none 0 0, .slice none 0 0] 36 (0, 0)) from blk_set BP.out 0 (.int .i64 kd)); replace HQ := Aside0.mk (Kd.Q_set HQ.out BP.out (by decide) 0 (.int .i64 kd)); replace BQ := Aside0.mk (blk_far BQ.out (p := ⟨p, 0, none⟩) (hne.symm) (.int .i64 kd)); replace BP := HN_; clear HN_; replace HB := Aside0.mk (below_set (j := 0) (v := .int .i64 kd) HB.out GP.out); obtain ⟨ad10_, ea10_, hx10_⟩ := Kd.at_string (Kd.Q_reads' HQ.out).2.2 0 (by decide) (by omega); cases ea10_; (try rw [show ((0 : Int)).toNat = 0 from rfl] at hx10_); (try rw [Addr.add_zero'] at hx10_); rw [Hx0.out] at hx10_; skip) | ((go_at_call 46); (with_reducible refine (reply_number.good x0 2147483648 n0 _ ?hl hA0 hn0 hm0).mono ?_); (case hl => exact LD.below hL HB.out); rintro e w20 ⟨rfl, hb'⟩; replace BP := Aside0.mk (blk_below BP.out hb'); replace BQ := Aside0.mk (blk_below BQ.out hb'); replace HQ := Aside0.mk (Kd.Q_below HQ.out hb'); replace HB := Aside0.mk (below_step HB.out hb'); clear hb'; have hc2_ := (blk_cell BP.out 1).trans rfl; have hz2_ := blk_frozen BP.out 1; have HN_ := Aside0.mk (show (World.setCell _ ⟨p, 1, none⟩ (.int .i64 n0)).heap[p]? = some (.cells #[.int .i64 kd, .int .i64 n0, .int .i64 0, .slice none 0 0, .slice none 0 0] 36 (0, 0)) from blk_set BP.out 1 (.int .i64 n0)); replace HQ := Aside0.mk (Kd.Q_set HQ.out BP.out (by decide) 1 (.int .i64 n0)); replace BQ := Aside0.mk (blk_far BQ.out (p := ⟨p, 1, none⟩) (hne.symm) (.int .i64 n0)); replace BP := HN_; clear HN_; replace HB := Aside0.mk (below_set (j := 1) (v := .int .i64 n0) HB.out GP.out); obtain ⟨ad11_, ea11_, hx11_⟩ := Kd.at_string (Kd.Q_reads' HQ.out).2.2 1 (by decide) (by omega); cases ea11_; simp only [show (1 : Int).toNat = 1 from rfl, Nat.reduceMul, Nat.reduceEqDiff, Go.Addr.add, ↓reduceIte] at hx11_; rw [Hx1.out] at hx11_; skip) | ((go_at_call 46); (with_reducible refine (reply_number.good x1 0 n1 _ ?hl hA1 hn1 hm1).mono ?_); (case hl => exact LD.below hL HB.out); rintro e w21 ⟨rfl, hb'⟩; replace BP := Aside0.mk (blk_below BP.out hb'); replace BQ := Aside0.mk (blk_below BQ.out hb'); replace HQ := Aside0.mk (Kd.Q_below HQ.out hb'); replace HB := Aside0.mk (below_step HB.out hb'); clear hb'; have hc3_ := (blk_cell BP.out 2).trans rfl; have hz3_ := blk_frozen BP.out 2; have HN_ := Aside0.mk (show (World.setCell _ ⟨p, 2, none⟩ (.int .i64 n1)).heap[p]? = some (.cells #[.int .i64 kd, .int .i64 n0, .int .i64 n1, .slice none 0 0, .slice none 0 0] 36 (0, 0)) from blk_set BP.out 2 (.int .i64 n1)); replace HQ := Aside0.mk (Kd.Q_set HQ.out BP.out (by decide) 2 (.int .i64 n1)); replace BQ := Aside0.mk (blk_far BQ.out (p := ⟨p, 2, none⟩) (hne.symm) (.int .i64 n1)); replace BP := HN_; clear HN_; replace HB := Aside0.mk (below_set (j := 2) (v := .int .i64 n1) HB.out GP.out); have hlk_ := (blk_cell BP.out 0).trans rfl; obtain ⟨ad12_, ea12_, hx12_⟩ := Kd.at_string (Kd.Q_reads' HQ.out).2.2 2 (by decide) (by omega); cases ea12_; simp only [show (2 : Int).toNat = 2 from rfl, Nat.reduceMul, Nat.reduceEqDiff, Go.Addr.add, ↓reduceIte] at hx12_; rw [Hx2.out] at hx12_; skip) | ((go_at_call 50); (with_reducible refine (row_Parse.calls k x2 rs er _ ?hl hR).mono ?_); (case hl => exact LD.below hL HB.out); rintro e w7 ⟨v7_, rfl, ho7, hb'⟩; have ho8 := Kd.R_lower ho7 (below_size HB.out); replace BP := Aside0.mk (blk_below BP.out hb'); replace BQ := Aside0.mk (blk_below BQ.out hb'); replace HQ := Aside0.mk (Kd.Q_below HQ.out hb'); replace HB := Aside0.mk (below_step HB.out hb'); have HO := Aside0.mk ho8; obtain ⟨A7, c7, e7⟩ := Kd.R_slice ho8; subst e7; clear ho7 ho8 hb'; have hc50_ := (blk_cell BP.out 3).trans rfl; have hz50_ := blk_frozen BP.out 3; have HN_ := Aside0.mk (show (World.setCell _ ⟨p, 3, none⟩ (.slice A7 rs.length c7)).heap[p]? = some (.cells #[.int .i64 kd, .int .i64 n0, .int .i64 n1, .slice A7 rs.length c7, .slice none 0 0] 36 (0, 0)) from blk_set BP.out 3 (.slice A7 rs.length c7)); replace HQ := Aside0.mk (Kd.Q_set HQ.out BP.out (by decide) 3 (.slice A7 rs.length c7)); replace HO := Aside0.mk (Kd.R_set HO.out BP.out (by decide) 3 (.slice A7 rs.length c7)); replace BQ := Aside0.mk (blk_far BQ.out (p := ⟨p, 3, none⟩) (hne.symm) (.slice A7 rs.length c7)); replace BP := HN_; clear HN_; replace HB := Aside0.mk (below_set (j := 3) (v := .slice A7 rs.length c7) HB.out GP.out); have hc51_ := (blk_cell BQ.out 0).trans rfl; have hz51_ := blk_frozen BQ.out 0; have HN_ := Aside0.mk (show (World.setCell _ ⟨q, 0, none⟩ (.int .i64 er)).heap[q]? = some (.cells #[.int .i64 er] 22 (0, 0)) from blk_set BQ.out 0 (.int .i64 er)); replace HQ := Aside0.mk (Kd.Q_set HQ.out BQ.out (by decide) 0 (.int .i64 er)); replace HO := Aside0.mk (Kd.R_set HO.out BQ.out (by decide) 0 (.int .i64 er)); replace BP := Aside0.mk (blk_far BP.out (p := ⟨q, 0, none⟩) (hne) (.int .i64 er)); replace BQ := HN_; clear HN_; replace HB := Aside0.mk (below_set (j := 0) (v := .int .i64 er) HB.out GQ.out); have hl60_ := (blk_cell BQ.out 0).trans rfl; skip) | ((go_at_call 51); (with_reducible refine (reply_must.bad er her _).mono ?_); rintro e w8 ⟨rfl, rfl⟩))
 refine leaves_cons (f := 53) (args := #[.pointer (some ⟨p, 0, none⟩), .pointer (some ⟨q, 0, none⟩)]) (by simp) (by simp [go_sem]) ?_
 refine (reply_ReadMessage.catch p q er _ _ _ _ _ _ _ BP.out BQ.out).mono ?_
 rintro e u' w'' ⟨rfl, rfl, w6, hb6, rfl⟩
 (try have hne : p ≠ q := blk_ne BP.out BQ.out (by decide))
 have cp0 := (blk_cell (blk_far (blk_set (blk_set (blk_set (blk_set (blk_set (blk_below BP.out hb6) 0 (.int .i64 0)) 1 (.int .i64 0)) 2 (.int .i64 0)) 3 (.slice none 0 0)) 4 (.slice none 0 0)) (p := ⟨q, 0, none⟩) hne (.int .i64 er)) 0).trans rfl
 have cp1 := (blk_cell (blk_far (blk_set (blk_set (blk_set (blk_set (blk_set (blk_below BP.out hb6) 0 (.int .i64 0)) 1 (.int .i64 0)) 2 (.int .i64 0)) 3 (.slice none 0 0)) 4 (.slice none 0 0)) (p := ⟨q, 0, none⟩) hne (.int .i64 er)) 1).trans rfl
 have cp2 := (blk_cell (blk_far (blk_set (blk_set (blk_set (blk_set (blk_set (blk_below BP.out hb6) 0 (.int .i64 0)) 1 (.int .i64 0)) 2 (.int .i64 0)) 3 (.slice none 0 0)) 4 (.slice none 0 0)) (p := ⟨q, 0, none⟩) hne (.int .i64 er)) 2).trans rfl
 have cp3 := (blk_cell (blk_far (blk_set (blk_set (blk_set (blk_set (blk_set (blk_below BP.out hb6) 0 (.int .i64 0)) 1 (.int .i64 0)) 2 (.int .i64 0)) 3 (.slice none 0 0)) 4 (.slice none 0 0)) (p := ⟨q, 0, none⟩) hne (.int .i64 er)) 3).trans rfl
 have cp4 := (blk_cell (blk_far (blk_set (blk_set (blk_set (blk_set (blk_set (blk_below BP.out hb6) 0 (.int .i64 0)) 1 (.int .i64 0)) 2 (.int .i64 0)) 3 (.slice none 0 0)) 4 (.slice none 0 0)) (p := ⟨q, 0, none⟩) hne (.int .i64 er)) 4).trans rfl
 have cq := (blk_cell (blk_set (blk_far (blk_far (blk_far (blk_far (blk_far (blk_below BQ.out hb6) (p := ⟨p, 0, none⟩) hne.symm (.int .i64 0)) (p := ⟨p, 1, none⟩) hne.symm (.int .i64 0)) (p := ⟨p, 2, none⟩) hne.symm (.int .i64 0)) (p := ⟨p, 3, none⟩) hne.symm (.slice none 0 0)) (p := ⟨p, 4, none⟩) hne.symm (.slice none 0 0)) 0 (.int .i64 er)) 0).trans rfl
 have HB2 := (below_set (j := 0) (v := .int .i64 er) (below_set (j := 4) (v := .slice none 0 0) (below_set (j := 3) (v := .slice none 0 0) (below_set (j := 2) (v := .int .i64 0) (below_set (j := 1) (v := .int .i64 0) (below_set (j := 0) (v := .int .i64 0) (below_step HB.out hb6) GP.out) GP.out) GP.out) GP.out) GP.out) GQ.out)
 simp [Leaves, settle, results, Tryz.results26, go_sem, cp0, cp1, cp2, cp3, cp4, cq, HB2]
 (try exact ⟨_, _, ⟨rfl, rfl⟩, Kd.R_nil _ _ _ _ _, Kd.R_nil _ _ _ _ _⟩)
theorem reply_ReadMessage.good6 (k : Nat) (a0 : ByteArray) (t : List ByteArray) (ks : List ByteArray) (i : Nat) (kd n0 : Int) (n1 : Int) (rs : List (S60)) (w : World) (hL : LD w) (h : word_Split.f k a0 32 = some t) (hks : reply_kinds.f = some ks) (hkl : ks.length ≤ 100) (hg : reply_words.g t 3 ks 0 = some i) (hkd : (i : Int) + 1 = kd) (hA0 : sat_Read.f (rdOf ByteArray.empty t 1) = some (n0, 0)) (hn0 : 0 ≤ n0) (hm0 : (0 : Int) < 2147483648 → n0 < 2147483648) (hA1 : sat_Read.f (rdOf ByteArray.empty t 2) = some (n1, 0)) (hn1 : 0 ≤ n1) (hkk : kd ≠ 2) (hR : row_Parse.f k (rdOf ByteArray.empty t 3) = some (rs, 0)) :
 Calls Tryz.prog 26 #[.string a0] w fun e w' => ∃ v0_ v1_ : Value, e = .returned (.tuple #[.agg #[.int .i64 kd, .int .i64 n0, .int .i64 n1, v0_, v1_], .int .i64 0]) ∧ Kd.R k60 60 w' w.heap.size (fun _ => True) v0_ rs ∧ Kd.R k78 78 w' w.heap.size (fun _ => True) v1_ [] ∧ Below w.heap.size w w' := by
 have hi := (reply_words.g_some hg).2
 have hwk : wrap64 kd = kd := by unfold wrap64; omega
 have hwn : wrap64 n0 = n0 := by have := hm0 (by decide); unfold wrap64; omega
 have hm1 : (0 : Int) < 0 → n1 < 0 := by omega
 have hkb : (kd == 2) = false := beq_eq_false_iff_ne.2 hkk
 clear hkk
 obtain ⟨x0, hX0⟩ : ∃ x, x = rdOf ByteArray.empty t 1 := ⟨_, rfl⟩
 obtain ⟨x1, hX1⟩ : ∃ x, x = rdOf ByteArray.empty t 2 := ⟨_, rfl⟩
 obtain ⟨x2, hX2⟩ : ∃ x, x = rdOf ByteArray.empty t 3 := ⟨_, rfl⟩
 rw [← hX0] at hA0
 rw [← hX1] at hA1
 rw [← hX2] at hR
 have hlt := (reply_words.g_some hg).1
 obtain ⟨y, hy⟩ : ∃ y : List ByteArray, y = t.drop 1 := ⟨_, rfl⟩
 have hyl : (y.length : Int) = 3 := by rw [hy, List.length_drop]; omega
 have Hx0 := Aside0.mk (show rdOf ByteArray.empty y 0 = x0 by rw [hy, hX0]; exact reply_words.rd1 t 0)
 have q0 : ((0 : Int) < (y.length : Int)) = True := eq_true (by omega)
 have qi0 : (0 < y.length) = True := eq_true (by omega)
 have Hx1 := Aside0.mk (show rdOf ByteArray.empty y 1 = x1 by rw [hy, hX1]; exact reply_words.rd1 t 1)
 have q1 : ((1 : Int) < (y.length : Int)) = True := eq_true (by omega)
 have qi1 : (1 < y.length) = True := eq_true (by omega)
 have Hx2 := Aside0.mk (show rdOf ByteArray.empty y 2 = x2 by rw [hy, hX2]; exact reply_words.rd1 t 2)
 have q2 : ((2 : Int) < (y.length : Int)) = True := eq_true (by omega)
 have qi2 : (2 < y.length) = True := eq_true (by omega)
 have HY := Aside0.mk hy
 clear hy hX0 hX1 hX2
 have hmf : ∀ (fn : Fn) (first cap : Array Value) (w : World), (Instr.makeFunc fn first cap).run Tryz.prog w = .ok (.func fn first cap) w := fun _ _ _ _ => rfl
 have hu56 := Tryz.underlying56
 have hu33 := Tryz.underlying33
 have hu36 := Tryz.underlying36
 have HB := Aside0.mk (Below.refl w.heap.size w)
 go_enter_defers Tryz.func26, Tryz.ntmps26
 go_wp2_with (first | ((with_reducible refine gate_dst (N := 2) rfl ?_); refine bx (N := 2) #[.int .i64 0, .int .i64 0, .int .i64 0, .slice none 0 0, .slice none 0 0] 36 ?_; intro p hp w1 hk1 hb1; have BP := Aside0.mk hk1; have GP := Aside0.mk (show w.heap.size ≤ p by rw [hp]; exact HB.out.size); replace HB := Aside0.mk (below_step HB.out hb1); clear hk1 hp hb1) | ((with_reducible refine gate_dst (N := 3) rfl ?_); refine bx (N := 3) #[.int .i64 0] 22 ?_; intro q hq w2 hk1 hb1; have BQ := Aside0.mk hk1; have GQ := Aside0.mk (show w.heap.size ≤ q by rw [hq]; exact HB.out.size); replace BP := Aside0.mk (blk_below BP.out hb1); replace HB := Aside0.mk (below_step HB.out hb1); clear hk1 hq hb1) | ((go_at_call 41); (with_reducible refine (reply_kinds.calls ks _ hks).mono ?_); rintro e w4 ⟨v4_, rfl, ho4, hb4⟩; have HO4 := Aside0.mk ho4; replace BP := Aside0.mk (blk_below BP.out hb4); replace BQ := Aside0.mk (blk_below BQ.out hb4); replace HB := Aside0.mk (below_step HB.out hb4); obtain ⟨A4, c4, e4⟩ := Kd.R_slice ho4; subst e4; clear ho4 hb4) | ((go_at_call 45); (with_reducible refine (reply_words.both k a0 3 (by decide) A4 c4 ks t _ (Kd.R_reads' HO4.out).2.2 (Kd.R_reads' HO4.out).2.1 hkl h).mono ?_); rintro e w5 ⟨ho, hb⟩; rw [hg] at ho; obtain ⟨v1_, rfl, hq⟩ := ho; have hb' := hb; replace BP := Aside0.mk (blk_below BP.out hb'); replace BQ := Aside0.mk (blk_below BQ.out hb'); replace HB := Aside0.mk (below_step HB.out hb'); rw [← HY.out] at hq; obtain ⟨A5, c5, e5, _⟩ := Kd.Q_slice hq; subst e5; have HQ := Aside0.mk hq; clear hq hb hb'; have hne := blk_ne BP.out BQ.out (by decide); have hc1_ := (blk_cell BP.out 0).trans rfl; have hz1_ := blk_frozen BP.out 0; have HN_ := Aside0.mk (show (World.setCell _ ⟨p, 0, none⟩ (.int .i64 kd)).heap[p]? = some (.cells #[.int .i64 kd, .int .i64 0, .int .i64 0, .slice none 0 0, .slice none 0 0] 36 (0, 0)) from blk_set BP.out 0 (.int .i64 kd)); replace HQ := Aside0.mk (Kd.Q_set HQ.out BP.out (by decide) 0 (.int .i64 kd)); replace BQ := Aside0.mk (blk_far BQ.out (p := ⟨p, 0, none⟩) (hne.symm) (.int .i64 kd)); replace BP := HN_; clear HN_; replace HB := Aside0.mk (below_set (j := 0) (v := .int .i64 kd) HB.out GP.out); obtain ⟨ad10_, ea10_, hx10_⟩ := Kd.at_string (Kd.Q_reads' HQ.out).2.2 0 (by decide) (by omega); cases ea10_; (try rw [show ((0 : Int)).toNat = 0 from rfl] at hx10_); (try rw [Addr.add_zero'] at hx10_); rw [Hx0.out] at hx10_; skip) | ((go_at_call 46); (with_reducible refine (reply_number.good x0 2147483648 n0 _ ?hl hA0 hn0 hm0).mono ?_); (case hl => exact LD.below hL HB.out); rintro e w20 ⟨rfl, hb'⟩; replace BP := Aside0.mk (blk_below BP.out hb'); replace BQ := Aside0.mk (blk_below BQ.out hb'); replace HQ := Aside0.mk (Kd.Q_below HQ.out hb'); replace HB := Aside0.mk (below_step HB.out hb'); clear hb'; have hc2_ := (blk_cell BP.out 1).trans rfl; have hz2_ := blk_frozen BP.out 1; have HN_ := Aside0.mk (show (World.setCell _ ⟨p, 1, none⟩ (.int .i64 n0)).heap[p]? = some (.cells #[.int .i64 kd, .int .i64 n0, .int .i64 0, .slice none 0 0, .slice none 0 0] 36 (0, 0)) from blk_set BP.out 1 (.int .i64 n0)); replace HQ := Aside0.mk (Kd.Q_set HQ.out BP.out (by decide) 1 (.int .i64 n0)); replace BQ := Aside0.mk (blk_far BQ.out (p := ⟨p, 1, none⟩) (hne.symm) (.int .i64 n0)); replace BP := HN_; clear HN_; replace HB := Aside0.mk (below_set (j := 1) (v := .int .i64 n0) HB.out GP.out); obtain ⟨ad11_, ea11_, hx11_⟩ := Kd.at_string (Kd.Q_reads' HQ.out).2.2 1 (by decide) (by omega); cases ea11_; simp only [show (1 : Int).toNat = 1 from rfl, Nat.reduceMul, Nat.reduceEqDiff, Go.Addr.add, ↓reduceIte] at hx11_; rw [Hx1.out] at hx11_; skip) | ((go_at_call 46); (with_reducible refine (reply_number.good x1 0 n1 _ ?hl hA1 hn1 hm1).mono ?_); (case hl => exact LD.below hL HB.out); rintro e w21 ⟨rfl, hb'⟩; replace BP := Aside0.mk (blk_below BP.out hb'); replace BQ := Aside0.mk (blk_below BQ.out hb'); replace HQ := Aside0.mk (Kd.Q_below HQ.out hb'); replace HB := Aside0.mk (below_step HB.out hb'); clear hb'; have hc3_ := (blk_cell BP.out 2).trans rfl; have hz3_ := blk_frozen BP.out 2; have HN_ := Aside0.mk (show (World.setCell _ ⟨p, 2, none⟩ (.int .i64 n1)).heap[p]? = some (.cells #[.int .i64 kd, .int .i64 n0, .int .i64 n1, .slice none 0 0, .slice none 0 0] 36 (0, 0)) from blk_set BP.out 2 (.int .i64 n1)); replace HQ := Aside0.mk (Kd.Q_set HQ.out BP.out (by decide) 2 (.int .i64 n1)); replace BQ := Aside0.mk (blk_far BQ.out (p := ⟨p, 2, none⟩) (hne.symm) (.int .i64 n1)); replace BP := HN_; clear HN_; replace HB := Aside0.mk (below_set (j := 2) (v := .int .i64 n1) HB.out GP.out); have hlk_ := (blk_cell BP.out 0).trans rfl; obtain ⟨ad12_, ea12_, hx12_⟩ := Kd.at_string (Kd.Q_reads' HQ.out).2.2 2 (by decide) (by omega); cases ea12_; simp only [show (2 : Int).toNat = 2 from rfl, Nat.reduceMul, Nat.reduceEqDiff, Go.Addr.add, ↓reduceIte] at hx12_; rw [Hx2.out] at hx12_; skip) | ((go_at_call 50); (with_reducible refine (row_Parse.calls k x2 rs 0 _ ?hl hR).mono ?_); (case hl => exact LD.below hL HB.out); rintro e w7 ⟨v7_, rfl, ho7, hb'⟩; have ho8 := Kd.R_lower ho7 (below_size HB.out); replace BP := Aside0.mk (blk_below BP.out hb'); replace BQ := Aside0.mk (blk_below BQ.out hb'); replace HQ := Aside0.mk (Kd.Q_below HQ.out hb'); replace HB := Aside0.mk (below_step HB.out hb'); have HO := Aside0.mk ho8; obtain ⟨A7, c7, e7⟩ := Kd.R_slice ho8; subst e7; clear ho7 ho8 hb'; have hc50_ := (blk_cell BP.out 3).trans rfl; have hz50_ := blk_frozen BP.out 3; have HN_ := Aside0.mk (show (World.setCell _ ⟨p, 3, none⟩ (.slice A7 rs.length c7)).heap[p]? = some (.cells #[.int .i64 kd, .int .i64 n0, .int .i64 n1, .slice A7 rs.length c7, .slice none 0 0] 36 (0, 0)) from blk_set BP.out 3 (.slice A7 rs.length c7)); replace HQ := Aside0.mk (Kd.Q_set HQ.out BP.out (by decide) 3 (.slice A7 rs.length c7)); replace HO := Aside0.mk (Kd.R_set HO.out BP.out (by decide) 3 (.slice A7 rs.length c7)); replace BQ := Aside0.mk (blk_far BQ.out (p := ⟨p, 3, none⟩) (hne.symm) (.slice A7 rs.length c7)); replace BP := HN_; clear HN_; replace HB := Aside0.mk (below_set (j := 3) (v := .slice A7 rs.length c7) HB.out GP.out); have hc51_ := (blk_cell BQ.out 0).trans rfl; have hz51_ := blk_frozen BQ.out 0; have HN_ := Aside0.mk (show (World.setCell _ ⟨q, 0, none⟩ (.int .i64 0)).heap[q]? = some (.cells #[.int .i64 0] 22 (0, 0)) from blk_set BQ.out 0 (.int .i64 0)); replace HQ := Aside0.mk (Kd.Q_set HQ.out BQ.out (by decide) 0 (.int .i64 0)); replace HO := Aside0.mk (Kd.R_set HO.out BQ.out (by decide) 0 (.int .i64 0)); replace BP := Aside0.mk (blk_far BP.out (p := ⟨q, 0, none⟩) (hne) (.int .i64 0)); replace BQ := HN_; clear HN_; replace HB := Aside0.mk (below_set (j := 0) (v := .int .i64 0) HB.out GQ.out); have hl60_ := (blk_cell BQ.out 0).trans rfl; have hl61_ := (blk_cell BP.out 0).trans rfl; have hl62_ := (blk_cell BP.out 1).trans rfl; have hl63_ := (blk_cell BP.out 2).trans rfl; have hl64_ := (blk_cell BP.out 3).trans rfl; have hl65_ := (blk_cell BP.out 4).trans rfl; have hc70_ := (blk_cell BP.out 0).trans rfl; have hz70_ := blk_frozen BP.out 0; have HN_ := Aside0.mk (show (World.setCell _ ⟨p, 0, none⟩ (.int .i64 kd)).heap[p]? = some (.cells #[.int .i64 kd, .int .i64 n0, .int .i64 n1, .slice A7 rs.length c7, .slice none 0 0] 36 (0, 0)) from blk_set BP.out 0 (.int .i64 kd)); replace HQ := Aside0.mk (Kd.Q_set HQ.out BP.out (by decide) 0 (.int .i64 kd)); replace HO := Aside0.mk (Kd.R_set HO.out BP.out (by decide) 0 (.int .i64 kd)); replace BQ := Aside0.mk (blk_far BQ.out (p := ⟨p, 0, none⟩) (hne.symm) (.int .i64 kd)); replace BP := HN_; clear HN_; replace HB := Aside0.mk (below_set (j := 0) (v := .int .i64 kd) HB.out GP.out); have hc71_ := (blk_cell BP.out 1).trans rfl; have hz71_ := blk_frozen BP.out 1; have HN_ := Aside0.mk (show (World.setCell _ ⟨p, 1, none⟩ (.int .i64 n0)).heap[p]? = some (.cells #[.int .i64 kd, .int .i64 n0, .int .i64 n1, .slice A7 rs.length c7, .slice none 0 0] 36 (0, 0)) from blk_set BP.out 1 (.int .i64 n0)); replace HQ := Aside0.mk (Kd.Q_set HQ.out BP.out (by decide) 1 (.int .i64 n0)); replace HO := Aside0.mk (Kd.R_set HO.out BP.out (by decide) 1 (.int .i64 n0)); replace BQ := Aside0.mk (blk_far BQ.out (p := ⟨p, 1, none⟩) (hne.symm) (.int .i64 n0)); replace BP := HN_; clear HN_; replace HB := Aside0.mk (below_set (j := 1) (v := .int .i64 n0) HB.out GP.out); have hc72_ := (blk_cell BP.out 2).trans rfl; have hz72_ := blk_frozen BP.out 2; have HN_ := Aside0.mk (show (World.setCell _ ⟨p, 2, none⟩ (.int .i64 n1)).heap[p]? = some (.cells #[.int .i64 kd, .int .i64 n0, .int .i64 n1, .slice A7 rs.length c7, .slice none 0 0] 36 (0, 0)) from blk_set BP.out 2 (.int .i64 n1)); replace HQ := Aside0.mk (Kd.Q_set HQ.out BP.out (by decide) 2 (.int .i64 n1)); replace HO := Aside0.mk (Kd.R_set HO.out BP.out (by decide) 2 (.int .i64 n1)); replace BQ := Aside0.mk (blk_far BQ.out (p := ⟨p, 2, none⟩) (hne.symm) (.int .i64 n1)); replace BP := HN_; clear HN_; replace HB := Aside0.mk (below_set (j := 2) (v := .int .i64 n1) HB.out GP.out); have hc73_ := (blk_cell BP.out 3).trans rfl; have hz73_ := blk_frozen BP.out 3; have HN_ := Aside0.mk (show (World.setCell _ ⟨p, 3, none⟩ (.slice A7 rs.length c7)).heap[p]? = some (.cells #[.int .i64 kd, .int .i64 n0, .int .i64 n1, .slice A7 rs.length c7, .slice none 0 0] 36 (0, 0)) from blk_set BP.out 3 (.slice A7 rs.length c7)); replace HQ := Aside0.mk (Kd.Q_set HQ.out BP.out (by decide) 3 (.slice A7 rs.length c7)); replace HO := Aside0.mk (Kd.R_set HO.out BP.out (by decide) 3 (.slice A7 rs.length c7)); replace BQ := Aside0.mk (blk_far BQ.out (p := ⟨p, 3, none⟩) (hne.symm) (.slice A7 rs.length c7)); replace BP := HN_; clear HN_; replace HB := Aside0.mk (below_set (j := 3) (v := .slice A7 rs.length c7) HB.out GP.out); have hc74_ := (blk_cell BP.out 4).trans rfl; have hz74_ := blk_frozen BP.out 4; have HN_ := Aside0.mk (show (World.setCell _ ⟨p, 4, none⟩ (.slice none 0 0)).heap[p]? = some (.cells #[.int .i64 kd, .int .i64 n0, .int .i64 n1, .slice A7 rs.length c7, .slice none 0 0] 36 (0, 0)) from blk_set BP.out 4 (.slice none 0 0)); replace HQ := Aside0.mk (Kd.Q_set HQ.out BP.out (by decide) 4 (.slice none 0 0)); replace HO := Aside0.mk (Kd.R_set HO.out BP.out (by decide) 4 (.slice none 0 0)); replace BQ := Aside0.mk (blk_far BQ.out (p := ⟨p, 4, none⟩) (hne.symm) (.slice none 0 0)); replace BP := HN_; clear HN_; replace HB := Aside0.mk (below_set (j := 4) (v := .slice none 0 0) HB.out GP.out); have hc80_ := (blk_cell BQ.out 0).trans rfl; have hz80_ := blk_frozen BQ.out 0; have HN_ := Aside0.mk (show (World.setCell _ ⟨q, 0, none⟩ (.int .i64 0)).heap[q]? = some (.cells #[.int .i64 0] 22 (0, 0)) from blk_set BQ.out 0 (.int .i64 0)); replace HQ := Aside0.mk (Kd.Q_set HQ.out BQ.out (by decide) 0 (.int .i64 0)); replace HO := Aside0.mk (Kd.R_set HO.out BQ.out (by decide) 0 (.int .i64 0)); replace BP := Aside0.mk (blk_far BP.out (p := ⟨q, 0, none⟩) (hne) (.int .i64 0)); replace BQ := HN_; clear HN_; replace HB := Aside0.mk (below_set (j := 0) (v := .int .i64 0) HB.out GQ.out); skip) | ((go_at_call 51); (with_reducible refine (reply_must.good _).mono ?_); rintro e w8 ⟨rfl, rfl⟩))
 refine leaves_cons (f := 53) (args := #[.pointer (some ⟨p, 0, none⟩), .pointer (some ⟨q, 0, none⟩)]) (by simp) (by simp [go_sem]) ?_
 refine (reply_ReadMessage.idle p q _).mono ?_
 rintro e u' w'' ⟨rfl, rfl, rfl⟩
 have cp0 := (blk_cell BP.out 0).trans rfl
 have cp1 := (blk_cell BP.out 1).trans rfl
 have cp2 := (blk_cell BP.out 2).trans rfl
 have cp3 := (blk_cell BP.out 3).trans rfl
 have cp4 := (blk_cell BP.out 4).trans rfl
 have cq := (blk_cell BQ.out 0).trans rfl
 simp [Leaves, settle, results, Tryz.results26, go_sem, cp0, cp1, cp2, cp3, cp4, cq, HB.out]
 (try exact ⟨_, _, ⟨rfl, rfl⟩, HO.out, Kd.R_nil _ _ _ _ _⟩)
def reply_ReadMessage.f (k : Nat) (a0 : ByteArray) : Option (Int × Int × Int × (List (S60)) × (List (S78)) × Int) := (word_Split.f k a0 32).bind fun t => ((reply_kinds.f).bind fun ks => (if ks.length ≤ 100 then (if (reply_words.g t 3 ks 0).isSome = true then ((sat_Read.f (rdOf ByteArray.empty t 1)).bind fun b => (if b.2 = 0 then (if b.1 < 0 then (some (0, 0, 0, [], [], 3)) else (if 2147483648 ≤ b.1 then (some (0, 0, 0, [], [], 3)) else ((sat_Read.f (rdOf ByteArray.empty t 2)).bind fun c => (if c.2 = 0 then (if c.1 < 0 then (some (0, 0, 0, [], [], 3)) else (if ((((reply_words.g t 3 ks 0).getD 0 : Nat) : Int) + 1) = 2 then ((diff_Parse.f k (rdOf ByteArray.empty t 3)).bind fun d => (if d.2 = 0 then (some (((((reply_words.g t 3 ks 0).getD 0 : Nat) : Int) + 1), b.1, c.1, [], d.1, 0)) else (some (0, 0, 0, [], [], d.2)))) else ((row_Parse.f k (rdOf ByteArray.empty t 3)).bind fun d => (if d.2 = 0 then (some (((((reply_words.g t 3 ks 0).getD 0 : Nat) : Int) + 1), b.1, c.1, d.1, [], 0)) else (some (0, 0, 0, [], [], d.2)))))) else (some (0, 0, 0, [], [], c.2)))))) else (some (0, 0, 0, [], [], b.2)))) else (some (0, 0, 0, [], [], 2))) else none))
theorem reply_ReadMessage.mono : ∀ a0 k, LeO (reply_ReadMessage.f k a0) (reply_ReadMessage.f (k + 1) a0) := by
 intro a0 k
 unfold reply_ReadMessage.f
 exact lo
instance reply_ReadMessage.mI {a0 k} : LeC (reply_ReadMessage.f k a0) (reply_ReadMessage.f (k + 1) a0) := ⟨reply_ReadMessage.mono _ _⟩
theorem reply_ReadMessage.calls (k : Nat) (a0 : ByteArray) (r1 : Int) (r2 : Int) (r3 : Int) (r4 : List (S60)) (r5 : List (S78)) (r6 : Int) (w : World) (hL : LD w) (h : reply_ReadMessage.f k a0 = some (r1, r2, r3, r4, r5, r6)) :
 Calls Tryz.prog 26 #[.string a0] w fun e w' => ∃ v3_ v4_ : Value, e = .returned (.tuple #[.agg #[.int .i64 r1, .int .i64 r2, .int .i64 r3, v3_, v4_], .int .i64 r6]) ∧ Kd.R k60 60 w' w.heap.size (fun _ => True) v3_ r4 ∧ Kd.R k78 78 w' w.heap.size (fun _ => True) v4_ r5 ∧ Below w.heap.size w w' := by
 unfold reply_ReadMessage.f at h
 cases hs : word_Split.f k a0 32 with
 | none => rw [hs] at h; exact absurd h (by simp)
 | some t =>
  rw [hs] at h
  simp only [Option.bind_some] at h
  obtain ⟨ks, hks, h⟩ := Option.bind_eq_some_iff.mp h
  by_cases hkl : ks.length ≤ 100
  case neg => rw [if_neg hkl] at h; exact absurd h (by simp)
  rw [if_pos hkl] at h
  cases hg : reply_words.g t 3 ks 0 with
  | none =>
   rw [hg, if_neg (by simp)] at h
   injection h with h; injection h with h1 h; injection h with h2 h; injection h with h3 h; injection h with h4 h; injection h with h5 h6; subst h1 h2 h3 h4 h5 h6
   exact reply_ReadMessage.bad0 k a0 t ks w hL hs hks hkl hg
  | some i =>
   rw [hg, if_pos (show (some i).isSome = true from rfl)] at h
   simp only [Option.getD_some] at h
   obtain ⟨⟨n0, er⟩, hA, h⟩ := Option.bind_eq_some_iff.mp h
   dsimp only at h
   by_cases c : er = 0
   case neg =>
    rw [if_neg c] at h
    injection h with h; injection h with h1 h; injection h with h2 h; injection h with h3 h; injection h with h4 h; injection h with h5 h6; subst h1 h2 h3 h4 h5 h6
    exact reply_ReadMessage.bad1 k a0 t ks i _ n0 er w hL hs hks hkl hg rfl hA c
   rw [if_pos c] at h
   subst c
   by_cases c2 : n0 < 0
   case pos =>
    rw [if_pos c2] at h
    injection h with h; injection h with h1 h; injection h with h2 h; injection h with h3 h; injection h with h4 h; injection h with h5 h6; subst h1 h2 h3 h4 h5 h6
    exact reply_ReadMessage.bad2 k a0 t ks i _ n0 w hL hs hks hkl hg rfl hA (Or.inl c2)
   rw [if_neg c2] at h
   by_cases c3 : 2147483648 ≤ n0
   case pos =>
    rw [if_pos c3] at h
    injection h with h; injection h with h1 h; injection h with h2 h; injection h with h3 h; injection h with h4 h; injection h with h5 h6; subst h1 h2 h3 h4 h5 h6
    exact reply_ReadMessage.bad2 k a0 t ks i _ n0 w hL hs hks hkl hg rfl hA (Or.inr ⟨by decide, c3⟩)
   rw [if_neg c3] at h
   obtain ⟨⟨n1, er⟩, hA1, h⟩ := Option.bind_eq_some_iff.mp h
   dsimp only at h
   by_cases c4 : er = 0
   case neg =>
    rw [if_neg c4] at h
    injection h with h; injection h with h1 h; injection h with h2 h; injection h with h3 h; injection h with h4 h; injection h with h5 h6; subst h1 h2 h3 h4 h5 h6
    exact reply_ReadMessage.bad3 k a0 t ks i _ n0 n1 er w hL hs hks hkl hg rfl hA (by omega) (by omega) hA1 c4
   rw [if_pos c4] at h
   subst c4
   by_cases c5 : n1 < 0
   case pos =>
    rw [if_pos c5] at h
    injection h with h; injection h with h1 h; injection h with h2 h; injection h with h3 h; injection h with h4 h; injection h with h5 h6; subst h1 h2 h3 h4 h5 h6
    exact reply_ReadMessage.bad4 k a0 t ks i _ n0 n1 w hL hs hks hkl hg rfl hA (by omega) (by omega) hA1 c5
   rw [if_neg c5] at h
   by_cases c6 : ((i : Nat) : Int) + 1 = 2
   ·
    rw [if_pos c6] at h
    obtain ⟨⟨rs, er⟩, hR, h⟩ := Option.bind_eq_some_iff.mp h
    dsimp only at h
    by_cases c7 : er = 0
    ·
     rw [if_pos c7] at h
     subst c7
     injection h with h; injection h with h1 h; injection h with h2 h; injection h with h3 h; injection h with h4 h; injection h with h5 h6; subst h1 h2 h3 h4 h5 h6
     exact reply_ReadMessage.good5 k a0 t ks i _ n0 n1 rs w hL hs hks hkl hg rfl hA (by omega) (by omega) hA1 (by omega) c6 hR
    ·
     rw [if_neg c7] at h
     injection h with h; injection h with h1 h; injection h with h2 h; injection h with h3 h; injection h with h4 h; injection h with h5 h6; subst h1 h2 h3 h4 h5 h6
     exact reply_ReadMessage.bad5 k a0 t ks i _ n0 n1 rs er w hL hs hks hkl hg rfl hA (by omega) (by omega) hA1 (by omega) c6 hR c7
   ·
    rw [if_neg c6] at h
    obtain ⟨⟨rs, er⟩, hR, h⟩ := Option.bind_eq_some_iff.mp h
    dsimp only at h
    by_cases c7 : er = 0
    ·
     rw [if_pos c7] at h
     subst c7
     injection h with h; injection h with h1 h; injection h with h2 h; injection h with h3 h; injection h with h4 h; injection h with h5 h6; subst h1 h2 h3 h4 h5 h6
     exact reply_ReadMessage.good6 k a0 t ks i _ n0 n1 rs w hL hs hks hkl hg rfl hA (by omega) (by omega) hA1 (by omega) c6 hR
    ·
     rw [if_neg c7] at h
     injection h with h; injection h with h1 h; injection h with h2 h; injection h with h3 h; injection h with h4 h; injection h with h5 h6; subst h1 h2 h3 h4 h5 h6
     exact reply_ReadMessage.bad6 k a0 t ks i _ n0 n1 rs er w hL hs hks hkl hg rfl hA (by omega) (by omega) hA1 (by omega) c6 hR c7
end Go.Proofs.YteckidchnicjeaaGreatDoor.X
