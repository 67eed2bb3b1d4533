/- Printed by a program of this session's own: what functions of the program compute, and that the machine computes it. -/
import Derived.Test.YthgoegjkiofbkaaXx0
import Derived.Test.YthgoegjkiofbkaaXx3
import Derived.Test.YthgoegjkiofbkaaXx4
namespace Go.Proofs.Ythgoegjkiofbkaa.X
open Go.RowKit Go.Proofs.YthgoegjkiofbkaaW.PrintWords Go.Proofs.YthgoegjkiofbkaaW.PrintLast Go.Proofs.YthgoegjkiofbkaaW.PrintMore
attribute [local go_sem] max2_int min2_int max_two min_two max_three min_three max_four min_four   -- for this text's walks alone
set_option linter.unusedVariables false
set_option linter.unusedSimpArgs false

/-! ### api_Pin_23: function 23 -/
open Go.Proofs.Ythgoegjkiofbkaa.InsDel
set_option maxHeartbeats 4000000 in
set_option maxRecDepth 100000 in
theorem api_Pin_23.shift (b n c i vb m vc : Nat) (cs vs : List Value) (cur curv : Array Value) (w : World) (hi : i < n) (hm : 0 < m) (hroom : n + m ≤ c) (hc63 : c ≤ 9223372036854775807) (hvb : vb ≠ b)
    (hcl : cs.length = n * 2) (hvl : vs.length = m * 2) (hh : w.heap[b]? = some (.cells cur 35 (0, 0))) (hsz : cur.size = c * 2) (hcs : cur.toList.take (n * 2) = cs)
    (hhv : w.heap[vb]? = some (.cells curv 35 (0, 0))) (hvs : curv.toList.take (m * 2) = vs) (h1c : ∀ v ∈ cs, v.oneCell' = true) (h1v : ∀ v ∈ vs, v.oneCell' = true) :
    Calls Try.prog 23 #[.slice (some ⟨b, 0, none⟩) n c, .int .i64 i, .slice (some ⟨vb, 0, none⟩) m vc] w fun e w' =>
      e = .returned (.slice (some ⟨b, 0, none⟩) (n + m) c) ∧ w' = (w.drew.setCells b ((i + m) * 2) (cs.drop (i * 2))).setCells b (i * 2) vs := by
  have mixed : Try.prog.follows .mixedOrders = true := by kernel_rfl
  have hz1 : ¬ ((m : Int) = 0) := by omega
  have hz2 : ¬ ((i : Int) = (n : Int)) := by omega
  have hinf : (Try.prog.info? 35).map (·.size) = some 2 := by kernel_rfl
  have hzz : ∀ w, (Go.sizeOf 35).run Try.prog w = .ok 2 w := fun w => by kernel_rfl
  have hov : ∀ lb cb, (callFunc 28 #[.slice (some ⟨vb, 0, none⟩) m vc, .slice (some ⟨b, (i + m) * 2, none⟩) lb cb]).run Try.prog w = .ok (.value (.bool false)) w := fun lb cb => by
    rw [run_callFunc_extern Try.func28 (by kernel_rfl) (by kernel_rfl) (by kernel_rfl) (e := Extern.SlicesOverlaps.overlaps #[22, 22] #[4]) (by kernel_rfl),
      Lib.run_overlaps_apart w 22 4 35 Try.underlying22 2 hzz ⟨vb, 0, none⟩ ⟨b, (i + m) * 2, none⟩ m vc lb cb hvb 35 35 curv.size cur.size (by simp [World.shape?, hhv]) (by simp [World.shape?, hh]) (by omega) (blk_frozen hhv _) (blk_frozen hhv _)]
    rfl
  have hdl : (cs.drop (i * 2)).length = (n - i) * 2 := by rw [List.length_drop, hcl]; omega
  have hw1 : IntKind.i64.wrap ((i : Int) + (m : Int)) = (i : Int) + (m : Int) := by rw [IntKind.wrap_i64]; omega
  have hb1 : (0 : Int) ≤ (i : Int) + (m : Int) := by omega
  have hin : i ≤ n := by omega
  have htn : ((i : Int) + (m : Int)).toNat = i + m := by omega
  have hb2 : ¬ (c = i + m) := by omega
  have hb3 : (i : Int) ≤ (n : Int) + (m : Int) := by omega
  have hb4 : ¬ (c = i) := by omega
  have hcp1 : ∀ ty dc sc, (Builtin.copy_ #[22, 22] ty #[.slice (some ⟨b, (i + m) * 2, none⟩) (n + m - (i + m)) dc, .slice (some ⟨b, i * 2, none⟩) (n + m - i) sc]).run Try.prog w.drew = .ok (goInt (n - i : Nat)) (w.drew.setCells b ((i + m) * 2) (cs.drop (i * 2))) := fun ty dc sc =>
    run_copy_k w.drew _ _ ty 35 2 b ((i + m) * 2) (n + m - (i + m)) dc ⟨b, i * 2, none⟩ (n + m - i) sc (cs.drop (i * 2)) (n - i) Try.underlying22 hinf (by simp only [Nat.min_def]; split <;> omega) hdl
      (blk_of (w := w.drew) (n := (n - i) * 2) hh (by rw [← hcs, List.drop_take]; congr 1; omega))
      (fun j hj => blk_some (w := w.drew) hh (by rw [hdl] at hj; omega)) (fun j hj => blk_frozen (w := w.drew) hh _) (fun v hv => h1c v (List.mem_of_mem_drop hv))
  obtain ⟨W1, hW1⟩ : ∃ W1, W1 = w.drew.setCells b ((i + m) * 2) (cs.drop (i * 2)) := ⟨_, rfl⟩
  obtain ⟨cur1, hh1, hz11, _⟩ := set_blk (w := w.drew) hh ((i + m) * 2) (cs.drop (i * 2)) (by rw [hdl]; omega)
  rw [← hW1] at hh1
  have hhv1 : W1.heap[vb]? = some (.cells curv 35 (0, 0)) := by rw [hW1, setCells_far _ _ _ hvb]; exact hhv
  have hcp2 : ∀ ty dc, (Builtin.copy_ #[22, 22] ty #[.slice (some ⟨b, i * 2, none⟩) (n + m - i) dc, .slice (some ⟨vb, 0, none⟩) m vc]).run Try.prog W1 = .ok (goInt (m : Nat)) (W1.setCells b (i * 2) vs) := fun ty dc =>
    run_copy_k W1 _ _ ty 35 2 b (i * 2) (n + m - i) dc ⟨vb, 0, none⟩ m vc vs m Try.underlying22 hinf (by simp only [Nat.min_def]; split <;> omega) hvl
      (blk_of (n := m * 2) hhv1 (by rw [List.drop_zero]; exact hvs))
      (fun j hj => blk_some hh1 (by rw [hz11]; rw [hvl] at hj; omega)) (fun j hj => blk_frozen hh1 _) h1v
  rw [← hW1] at hcp1
  have HW1 := Aside0.mk hW1
  clear hW1
  clear hh1 hz11 hhv1 hdl hcs hvs hh hhv hcl hvl hsz h1c h1v
  go_enter Try.func23, Try.ntmps23
  go_wp2_with (simp only [hov])

  go_region_law_o (refine step_copy_r rfl _ _ 22 22 rfl _ _ (by simp [Act.eval, Act.put]) (by simp [Act.eval, Act.put]) (hcp1 _ _ _) ?_)
  go_wp2_with (at_builtin; refine wpList_copy_r _ rfl _ _ 22 22 rfl _ _ rfl rfl (hcp2 _ _) ?_)
  go_ret
  exact ⟨rfl, by rw [HW1.out]⟩
set_option maxHeartbeats 4000000 in
set_option maxRecDepth 100000 in
theorem api_Pin_23.grow (b n c i vb m vc : Nat) (cs vs : List Value) (cur curv : Array Value) (w : World) (hi : i < n) (hm : 0 < m) (hnc : n ≤ c) (hroom : c < n + m) (hbig : (n + m) * 16 ≤ 140737488355328)
    (hcl : cs.length = n * 2) (hvl : vs.length = m * 2) (hh : w.heap[b]? = some (.cells cur 35 (0, 0))) (hsz : cur.size = c * 2) (hcs : cur.toList.take (n * 2) = cs)
    (hhv : w.heap[vb]? = some (.cells curv 35 (0, 0))) (hvs : curv.toList.take (m * 2) = vs) (h1c : ∀ v ∈ cs, v.oneCell' = true) (h1v : ∀ v ∈ vs, v.oneCell' = true) :
    Calls Try.prog 23 #[.slice (some ⟨b, 0, none⟩) n c, .int .i64 i, .slice (some ⟨vb, 0, none⟩) m vc] w fun e w' =>
      ∃ G ROW, e = .returned (.slice (some ⟨w.heap.size, 0, none⟩) (n + m) G) ∧ w' = (((w.alloc (.cells ROW 35)).drew.setCells w.heap.size (i * 2) vs).drew).setCells w.heap.size ((i + m) * 2) (cs.drop (i * 2)) ∧
        n + m ≤ G ∧ G ≤ maxLen ∧ ROW.size = G * 2 ∧ ROW.toList.take (i * 2) = cs.take (i * 2) := by
  have mixed : Try.prog.follows .mixedOrders = true := by kernel_rfl
  obtain ⟨i0, hi0, hz0, hzs, hzb⟩ := info_parts info35
  have hz1 : ¬ ((m : Int) = 0) := by omega
  have hz2 : ¬ ((i : Int) = (n : Int)) := by omega
  have hz3 : (c : Int) < (n : Int) + (m : Int) := by omega
  have hinf : (Try.prog.info? 35).map (·.size) = some 2 := by kernel_rfl
  have hbw : b < w.heap.size := blk_lt hh
  have hvw : vb < w.heap.size := blk_lt hhv
  have hkk : (n : Int) + (m : Int) - (i : Int) = ((n + m - i : Nat) : Int) := by omega
  have hik : i + (n + m - i) = n + m := by omega
  have hold : (Builtin.firstCells i0.size i (.slice (some ⟨b, 0, none⟩) i c)).run Try.prog w.drew = .ok (cs.take (i * 2)).toArray w.drew := by
    rw [hzs]
    exact run_firstCells_some w.drew 2 i ⟨b, 0, none⟩ i c (cs.take (i * 2)) (by rw [List.length_take]; omega)
      (blk_of (w := w.drew) (n := i * 2) hh (by rw [← hcs, List.drop_zero, List.take_take]; congr 1; omega))
  have hrz : ∀ ty, (Builtin.append_ #[22, 3] ty #[.slice (some ⟨b, 0, none⟩) i c, .int .i64 ((n : Int) + (m : Int) - (i : Int))]).run Try.prog w =
      .ok (.slice (some ⟨w.heap.size, 0, none⟩) (n + m) (grownCap w (n + m) c 35)) (w.drew.alloc (.cells ((cs.take (i * 2)).toArray ++ Builtin.zeroCells ((.agg #[(.int .i64 0), (.int .i64 0)]) : Value).cells (n + m - i) ++ Builtin.zeroCells ((.agg #[(.int .i64 0), (.int .i64 0)]) : Value).cells (grownCap w (n + m) c 35 - (n + m))) 35)) := fun ty => by
    have h := Lib.run_append_grow_zeros w 22 3 ty 35 i0 _ .i64 .i64 Try.underlying22 Try.underlying3 hi0 hz0 (some ⟨b, 0, none⟩) i c (cs.take (i * 2)) hold (n + m - i) (by omega) (by omega) (by omega) (by omega) (by rw [hzb]; omega) (by rw [hzb, hik]; exact growslice_fits hroom hbig)
    rw [hik] at h
    rw [hkk]
    exact h
  obtain ⟨G, hG⟩ : ∃ G, G = grownCap w (n + m) c 35 := ⟨_, rfl⟩
  have hGn : n + m ≤ G := by rw [hG]; exact grownCap_ge w _ _ _
  have hGm : G ≤ maxLen := by
    rw [hG]
    exact grownCap_le_maxLen w (n + m) c 35 (by unfold maxLen; omega)
  have hG63 : G ≤ 9223372036854775807 := by
    have := hGm
    unfold maxLen at this
    omega
  obtain ⟨ROW, hROW⟩ : ∃ ROW : Array Value, ROW = (cs.take (i * 2)).toArray ++ Builtin.zeroCells ((.agg #[(.int .i64 0), (.int .i64 0)]) : Value).cells (n + m - i) ++ Builtin.zeroCells ((.agg #[(.int .i64 0), (.int .i64 0)]) : Value).cells (G - (n + m)) := ⟨_, rfl⟩
  rw [← hG] at hrz
  rw [← hROW] at hrz
  have hzc : ((.agg #[(.int .i64 0), (.int .i64 0)]) : Value).cells.size = 2 := by kernel_rfl
  have hRl : ROW.size = G * 2 := by
    rw [hROW, Array.size_append, Array.size_append, List.size_toArray, size_zeroCells, size_zeroCells, hzc, List.length_take, hcl]
    omega
  have hRt : ROW.toList.take (i * 2) = cs.take (i * 2) := by
    rw [hROW, Array.toList_append, Array.toList_append, List.append_assoc, List.take_append_of_le_length (by rw [List.length_take, hcl]; omega)]
    rw [List.take_take, Nat.min_self]
  have hdl : (cs.drop (i * 2)).length = (n - i) * 2 := by rw [List.length_drop, hcl]; omega
  obtain ⟨W1, hW1⟩ : ∃ W1, W1 = w.drew.alloc (.cells ROW 35) := ⟨_, rfl⟩
  rw [← hW1] at hrz
  have hN : W1.heap[w.heap.size]? = some (.cells ROW 35 (0, 0)) := by rw [hW1]; exact heap_alloc_new w.drew _
  have hOb : W1.heap[b]? = some (.cells cur 35 (0, 0)) := by rw [hW1]; exact (Below.heap_alloc w.drew _ b hbw).trans hh
  have hOv : W1.heap[vb]? = some (.cells curv 35 (0, 0)) := by rw [hW1]; exact (Below.heap_alloc w.drew _ vb hvw).trans hhv
  have hcpA : ∀ ty dc, (Builtin.copy_ #[22, 22] ty #[.slice (some ⟨w.heap.size, i * 2, none⟩) (n + m - i) dc, .slice (some ⟨vb, 0, none⟩) m vc]).run Try.prog W1 = .ok (goInt (m : Nat)) (W1.setCells w.heap.size (i * 2) vs) := fun ty dc =>
    run_copy_k W1 _ _ ty 35 2 w.heap.size (i * 2) (n + m - i) dc ⟨vb, 0, none⟩ m vc vs m Try.underlying22 hinf (by simp only [Nat.min_def]; split <;> omega) hvl
      (blk_of (n := m * 2) hOv (by rw [List.drop_zero]; exact hvs))
      (fun j hj => blk_some hN (by rw [hRl]; rw [hvl] at hj; omega)) (fun j hj => blk_frozen hN _) h1v
  obtain ⟨W2, hW2⟩ : ∃ W2, W2 = W1.setCells w.heap.size (i * 2) vs := ⟨_, rfl⟩
  rw [← hW2] at hcpA
  obtain ⟨cur2, hh2, hz22, _⟩ := set_blk hN (i * 2) vs (by rw [hvl, hRl]; omega)
  rw [← hW2] at hh2
  have hOb2 : W2.heap[b]? = some (.cells cur 35 (0, 0)) := by rw [hW2, setCells_far _ _ _ (by omega)]; exact hOb
  have hcpB : ∀ ty dc sc, (Builtin.copy_ #[22, 22] ty #[.slice (some ⟨w.heap.size, (i + m) * 2, none⟩) (n + m - (i + m)) dc, .slice (some ⟨b, i * 2, none⟩) (n - i) sc]).run Try.prog W2.drew = .ok (goInt (n - i : Nat)) (W2.drew.setCells w.heap.size ((i + m) * 2) (cs.drop (i * 2))) := fun ty dc sc =>
    run_copy_k W2.drew _ _ ty 35 2 w.heap.size ((i + m) * 2) (n + m - (i + m)) dc ⟨b, i * 2, none⟩ (n - i) sc (cs.drop (i * 2)) (n - i) Try.underlying22 hinf (by simp only [Nat.min_def]; split <;> omega) hdl
      (blk_of (w := W2.drew) (n := (n - i) * 2) hOb2 (by rw [← hcs, List.drop_take]; congr 1; omega))
      (fun j hj => blk_some (w := W2.drew) hh2 (by rw [hz22, hRl]; rw [hdl] at hj; omega)) (fun j hj => blk_frozen (w := W2.drew) hh2 _) (fun v hv => h1c v (List.mem_of_mem_drop hv))
  have hGi : ¬ (G = i) := by omega
  have hGim : ¬ (G = i + m) := by omega
  have hci : ¬ (c = i) := by omega
  have hbN : b ≠ w.heap.size := by omega
  have hw1 : IntKind.i64.wrap ((i : Int) + (m : Int)) = (i : Int) + (m : Int) := by rw [IntKind.wrap_i64]; omega
  have hb1 : (0 : Int) ≤ (i : Int) + (m : Int) := by omega
  have hin : i ≤ n := by omega
  have htn : ((i : Int) + (m : Int)).toNat = i + m := by omega
  have hb3 : (i : Int) ≤ (n : Int) := by omega
  have HW1 := Aside0.mk hW1
  have HW2 := Aside0.mk hW2
  have HF := Aside0.mk (And.intro hGn (And.intro hGm (And.intro hRl hRt)))
  obtain ⟨s, hs⟩ : ∃ s, s = w.heap.size := ⟨_, rfl⟩
  rw [← hs] at hcpA hcpB hrz hbN
  have HS := Aside0.mk hs
  clear hW1 hW2 hs hh2 hz22 hOb2 hOb hOv hN hdl hRt hRl hROW hG hold hkk hik hi0 hz0 hzs hzb hcs hvs hh hhv hcl hvl hsz h1c h1v hbw hvw hGm hbig
  go_enter Try.func23, Try.ntmps23
  go_wp2_with (first
    | (at_builtin; refine Lib.wpList_append_run _ rfl _ _ _ _ rfl _ _ rfl rfl _ _ (hrz _) ?_)
    | (at_builtin; refine wpList_copy_r _ rfl _ _ 22 22 rfl _ _ rfl rfl (hcpA _ _) ?_))
  go_region_law_o (refine step_copy_r rfl _ _ 22 22 rfl _ _ (by simp [Act.eval, Act.put]) (by simp [Act.eval, Act.put]) (hcpB _ _ _) ?_)
  go_wp2
  go_ret
  refine ⟨G, ROW, by rw [HS.out]; rfl, ?_, HF.out.1, HF.out.2.1, HF.out.2.2.1, HF.out.2.2.2⟩
  rw [HW2.out, HW1.out, HS.out]
  rfl
def api_Pin_23.f (l0 : List (S35)) (a1 : Int) (l2 : List (S35)) : Option ((List (S35))) := if 0 < l2.length then (if 0 ≤ a1 then (if a1 ≤ (l0.length : Int) then (if (l0.length + l2.length) * 16 ≤ 140737488355328 then (some (l0.take a1.toNat ++ l2 ++ l0.drop a1.toNat)) else (none)) else (none)) else (none)) else (none)
set_option maxHeartbeats 8000000 in
set_option maxRecDepth 100000 in
theorem api_Pin_23.calls (P0_ : Nat → Prop) (u9000_ : Value) (l0 : List (S35)) (a1 : Int) (P2_ : Nat → Prop) (u9001_ : Value) (l2 : List (S35)) (r : List (S35)) (w0 w : World) (hB : Below w0.heap.size w0 w) (ho0 : Kd.R k35 35 w w0.heap.size P0_ u9000_ l0) (hp0_2 : ∀ k_, P0_ k_ → ¬ P2_ k_) (ho2 : Kd.R k35 35 w w0.heap.size P2_ u9001_ l2) (hp2_0 : ∀ k_, P2_ k_ → ¬ P0_ k_) (h : api_Pin_23.f l0 a1 l2 = some r) :
    Calls Try.prog 23 #[u9000_, .int .i64 a1, u9001_] w fun e w' => ∃ v0_ : Value, e = .returned (v0_) ∧ Kd.R k35 35 w' w0.heap.size (fun k_ => ((P0_ k_ ∨ P2_ k_) ∨ w.heap.size ≤ k_)) v0_ r ∧ Below w0.heap.size w0 w' ∧ Kept w w' (fun k_ => P0_ k_ ∨ P2_ k_) := by
  unfold api_Pin_23.f at h
  by_cases hm : 0 < l2.length
  · rw [if_pos hm] at h
    by_cases h0 : 0 ≤ a1
    · rw [if_pos h0] at h
      by_cases hle : a1 ≤ (l0.length : Int)
      · rw [if_pos hle] at h
        by_cases hbig : (l0.length + l2.length) * 16 ≤ 140737488355328
        · rw [if_pos hbig] at h
          obtain rfl := Option.some.inj h
          clear h
          obtain ⟨i, rfl⟩ : ∃ i : Nat, a1 = (i : Int) := ⟨a1.toNat, by omega⟩
          rw [Int.toNat_natCast]
          have hin : i ≤ l0.length := by omega
          clear h0 hle
          obtain ⟨h0ok, inner, hown, hr⟩ := ho0
          have ho2' := ho2
          obtain ⟨h2ok, innv, hownv, hrv⟩ := ho2'
          rcases hownv.2 with ⟨_, hz⟩ | ⟨vb, vc, curv, hve, hvbb, hhv, hvn, hvm, hvs, hvt⟩
          · omega
          subst hve
          have hP2 : P2_ vb := h2ok vb rfl
          have hr' : Reps (k35.M w w0.heap.size (fun _ => True)) k35.sz l0 inner := hr.imp_ (fun _ _ h => free rfl h)
          have hrv' : Reps (k35.M w w0.heap.size (fun _ => True)) k35.sz l2 innv := hrv.imp_ (fun _ _ h => free rfl h)
          have hcl : inner.length = l0.length * 2 := hr.1
          have hvl : innv.length = l2.length * 2 := hrv.1
          have h1c : ∀ v ∈ inner, v.oneCell' = true := Kd.reps_one hr (by decide) (fun _ _ h => k35.K_one (k35.K_of_M h))
          have h1v : ∀ v ∈ innv, v.oneCell' = true := Kd.reps_one hrv (by decide) (fun _ _ h => k35.K_one (k35.K_of_M h))
          by_cases hi : i = l0.length
          · subst hi
            rw [List.take_length, List.drop_length, List.append_nil]
            have hO0 : Kd.R k35 35 w w0.heap.size (fun k_ => P0_ k_) u9000_ l0 := ⟨h0ok, inner, hown, hr⟩
            obtain ⟨A0, c0, he0⟩ := Kd.R_slice hO0
            subst he0
            have hz1 : ¬ ((l2.length : Int) = 0) := by omega
            have hcc := (Kd.R_reads' hO0).2.1
            have HC := (Kd.R_reads' ho2).2.2
            have HX0 := Aside0.mk hO0
            have HXC := Aside0.mk HC
            have HXB := Aside0.mk hB
            have HXP := Aside0.mk h0ok
            have HBG := Aside0.mk hbig
            obtain ⟨n0, hn0⟩ : ∃ n0, n0 = l0.length := ⟨_, rfl⟩
            obtain ⟨m0, hm0⟩ : ∃ m0, m0 = l2.length := ⟨_, rfl⟩
            have HN0 := Aside0.mk hn0
            have HM0 := Aside0.mk hm0
            rw [← hn0, ← hm0]
            rw [← hn0] at hcc
            rw [← hm0] at hz1
            have hcut : ∀ W : World, ∃ A' : Option Addr, (Instr.slice 22 (.slice A0 n0 c0) (some (.int .i64 (n0 : Int))) none none).run Try.prog W = .ok (.slice A' (n0 - n0) (c0 - n0)) W := fun W => by
              obtain ⟨i0, hi0, _, hz, _⟩ := info_parts info35
              have hel : Try.prog.elem 22 = 35 := by simp [Program.elem, Try.underlying22]
              have hu : Try.prog.underlying 22 = some (.slice (Try.prog.elem 22)) := by rw [hel]; exact Try.underlying22
              refine ⟨if c0 = n0 then A0 else A0.map (·.add (n0 * 2)), ?_⟩
              rw [run_slice_l W 22 A0 n0 c0 hu .i64 (n0 : Int) (Int.natCast_nonneg _) (by omega), hel]
              simp [sizeOf, typeInfo, hi0, hz, sliced, Result.andThen]
            obtain ⟨A', hcut'⟩ := hcut w
            clear hn0 hm0 hm hbig h0ok hown hr ho2 h2ok hownv hrv hhv hvn hvm hvs hvt hr' hrv' hcl hvl h1c h1v hO0 HC hin hB hp0_2 hp2_0 hP2 hvbb hcut
            go_enter Try.func23, Try.ntmps23
            go_wp2_with (at_builtin; refine Kd.R_append_rows k35 (w0 := w0) w0.heap.size rfl (.tmp 23) (.tmp 24) 22 35 (.agg #[(.int .i64 0), (.int .i64 0)]) 16 rfl Try.underlying22 info35 rfl (by decide) (by decide) (.slice A0 n0 c0) l0 l2 _ _ _ (fun k_ => (P0_ k_ ∨ P2_ k_) ∨ w.heap.size ≤ k_) (fun _ => False) rfl rfl ?aO ?aR (fun _ _ h => h) (fun _ h => h.elim) ?aF ?aB ?aS ?aL ?_; (case aO => rw [HN0.out]; exact Kd.R_mono HX0.out (fun _ hk => .inl (.inl hk))); (case aR => rw [HM0.out]; exact HXC.out); (case aF => exact (fun _ hk => .inr hk)); (case aB => exact HXB.out); (case aS => exact HXB.out.size); (case aL => rw [HM0.out]; exact HBG.out); intro v1 w1 ho hb hg hat; have QO := Aside0.mk ho; have QB := Aside0.mk hb; have QG := Aside0.mk hg; clear ho hb hg hat)
            go_ret
            refine ⟨_, rfl, QO.out, QB.out, Kept.of_grown QG.out (Kept.refl _ _) (fun k hk => .inl (.inl (HXP.out k (by rw [← HN0.out]; exact hk))))⟩
          · rcases hown.2 with ⟨_, hz⟩ | ⟨b, c, cur, he, hb, hh, hnc, hcm, hsz, hct⟩
            · omega
            subst he
            replace hsz : cur.size = c * 2 := hsz
            have hP0 : P0_ b := h0ok b rfl
            have hne : vb ≠ b := fun e => hp0_2 b hP0 (e ▸ hP2)
            have hdl : (inner.drop (i * 2)).length = (l0.length - i) * 2 := by rw [List.length_drop, hcl]; omega
            have hc63 : c ≤ 9223372036854775807 := by have := hcm; unfold maxLen at this; omega
            by_cases hroom : l0.length + l2.length ≤ c
            · refine (api_Pin_23.shift b l0.length c i vb l2.length vc inner innv cur curv w (by omega) hm hroom hc63 hne hcl hvl hh hsz hct hhv hvt h1c h1v).mono ?_
              rintro e w' ⟨rfl, rfl⟩
              obtain ⟨cur1, hh1, hz1, ht1⟩ := set_blk (w := w.drew) hh ((i + l2.length) * 2) (inner.drop (i * 2)) (by rw [hdl, hsz]; omega)
              obtain ⟨cur2, hh2, hz2, ht2⟩ := set_blk hh1 (i * 2) innv (by rw [hz1, hsz, hvl]; omega)
              refine ⟨_, rfl, of_cells rfl (.inl (.inl hP0)) hb hh2 (reps_ins hr' hrv' hin) (by simp only [List.length_append, List.length_take, List.length_drop]; omega) hroom hcm (by rw [hz2, hz1, hsz]; rfl) ?_, setCells_below (setCells_below (w := w.drew) (below_drew hB) hb _ _) hb _ _, setCells_kept (setCells_kept (w := w.drew) (Kept.refl w _) (.inl (.inl hP0)) _ _) (.inl (.inl hP0)) _ _⟩
              change cur2.toList.take ((l0.length + l2.length) * 2) = inner.take (i * 2) ++ innv ++ inner.drop (i * 2)
              rw [ht2, ht1]
              have e := take_ins cur.toList (i * 2) (l0.length * 2) (l2.length * 2) inner innv hct (by omega) (by have e_ := Array.length_toList (xs := cur); omega) hvl hcl
              rw [show (i + l2.length) * 2 = i * 2 + l2.length * 2 by omega]
              rw [show (l0.length + l2.length) * 2 = l0.length * 2 + l2.length * 2 by omega]
              exact e
            · refine (api_Pin_23.grow b l0.length c i vb l2.length vc inner innv cur curv w (by omega) hm hnc (by omega) hbig hcl hvl hh hsz hct hhv hvt h1c h1v).mono ?_
              rintro e w' ⟨G, ROW, rfl, rfl, hGn, hGm, hRs, hRt⟩
              have hhR : (w.alloc (.cells ROW 35)).drew.heap[w.heap.size]? = some (.cells ROW 35 (0, 0)) := heap_alloc_new w _
              obtain ⟨cur1, hh1, hz1, ht1⟩ := set_blk hhR (i * 2) innv (by rw [hRs, hvl]; omega)
              have hh1' : ((w.alloc (.cells ROW 35)).drew.setCells w.heap.size (i * 2) innv).drew.heap[w.heap.size]? = some (.cells cur1 35 (0, 0)) := hh1
              obtain ⟨cur2, hh2, hz2, ht2⟩ := set_blk hh1' ((i + l2.length) * 2) (inner.drop (i * 2)) (by rw [hz1, hRs, hdl]; omega)
              have hbw : w0.heap.size ≤ w.heap.size := hB.size
              refine ⟨_, rfl, of_cells rfl (.inr (Nat.le_refl _)) hbw hh2 (reps_ins hr' hrv' hin) (by simp only [List.length_append, List.length_take, List.length_drop]; omega) hGn hGm (by rw [hz2, hz1, hRs]; rfl) ?_, setCells_below (below_drew (setCells_below (below_drew (below_alloc hB _)) hbw _ _)) hbw _ _, setCells_kept (w := ((w.alloc (.cells ROW 35)).drew.setCells w.heap.size (i * 2) innv).drew) (setCells_kept (w := (w.alloc (.cells ROW 35)).drew) ((Kept.refl w _).alloc _) (.inr (Nat.le_refl _)) _ _) (.inr (Nat.le_refl _)) _ _⟩
              change cur2.toList.take ((l0.length + l2.length) * 2) = inner.take (i * 2) ++ innv ++ inner.drop (i * 2)
              rw [ht2, ht1]
              have e := take_grow ROW.toList innv (inner.drop (i * 2)) (i * 2) (l0.length * 2) (l2.length * 2) (by omega) (by have e_ := Array.length_toList (xs := ROW); omega) hvl (by rw [hdl]; omega)
              rw [show (i + l2.length) * 2 = i * 2 + l2.length * 2 by omega]
              rw [show (l0.length + l2.length) * 2 = l0.length * 2 + l2.length * 2 by omega]
              rw [← hRt]
              exact e
        · rw [if_neg hbig] at h
          exact absurd h (by simp)
      · rw [if_neg hle] at h
        exact absurd h (by simp)
    · rw [if_neg h0] at h
      exact absurd h (by simp)
  · rw [if_neg hm] at h
    exact absurd h (by simp)

/-! ### pin_Add: function 8 -/
def pin_Add.l0 : Nat → List (S35) → List (S35) → Int → Int → Option ((List (S35)) × Int)
  | 0, _, _, _, _ => none
  | k + 1, x6, x16, x17, x18 => if x18 < x17 then (if 0 ≤ x18 then (if x18 < (x16.length : Int) then ((api_Pin_21.f k x6 ((rd_T35 x16 x18).f0) ((rd_T35 x16 x18).f1)).bind fun bt121 => (if ((rd_T35 x16 x18).f1) < 0 then (some (([] : List (S35)), 1)) else (if bt121.2 = true then (some (([] : List (S35)), 5)) else ((api_Pin_23.f x6 bt121.1 (([(⟨(rd_T35 x16 x18).f0, (rd_T35 x16 x18).f1⟩ : S35)] : List (S35)))).bind fun t126 => (pin_Add.l0 k t126 x16 x17 (wrap64 (x18 + 1))))))) else (none)) else (none)) else (some (x6, 0))
def pin_Add.f (k : Nat) (l0 : List (S35)) (l1 : List (S35)) : Option ((List (S35)) × Int) := (pin_Right.f k l0).bind fun t115 => (if t115 = true then ((api_Pin_20.f l0).bind fun t116 => (pin_Add.l0 k t116 l1 (l1.length : Int) 0)) else (some (([] : List (S35)), 9)))
theorem pin_Add.mono_l : ∀ k, (∀ y0 y1 y2 y3, LeO (pin_Add.l0 k y0 y1 y2 y3) (pin_Add.l0 (k + 1) y0 y1 y2 y3))
  | 0 => fun _ _ _ _ r h => by simp [pin_Add.l0] at h
  | k + 1 => by
    have ih0 := pin_Add.mono_l k
    · intro y0 y1 y2 y3
      unfold pin_Add.l0
      repeat' first
      | (with_reducible exact ih0 _ _ _ _)
      | (with_reducible exact api_Pin_21.mono _ _ _ _)
      | (with_reducible exact pin_Right.mono _ _)
      | (with_reducible exact LeO.refl _)
      | (with_reducible exact LeO.none _)
      | (with_reducible refine LeO.ite ?_ ?_)
      | (with_reducible refine LeO.bind ?_ (fun _ => ?_))
      | exact ih0 _ _ _ _
      | exact api_Pin_21.mono _ _ _ _
      | exact pin_Right.mono _ _
      | exact LeO.none _
      | refine LeO.ite ?_ ?_
      | refine LeO.bind ?_ (fun _ => ?_)
theorem pin_Add.mono : ∀ a0 a1 k, LeO (pin_Add.f k a0 a1) (pin_Add.f (k + 1) a0 a1) := by
  intro a0 a1 k
  have ih0 := pin_Add.mono_l k
  unfold pin_Add.f
  repeat' first
      | (with_reducible exact ih0 _ _ _ _)
      | (with_reducible exact api_Pin_21.mono _ _ _ _)
      | (with_reducible exact pin_Right.mono _ _)
      | (with_reducible exact LeO.refl _)
      | (with_reducible exact LeO.none _)
      | (with_reducible refine LeO.ite ?_ ?_)
      | (with_reducible refine LeO.bind ?_ (fun _ => ?_))
      | exact ih0 _ _ _ _
      | exact api_Pin_21.mono _ _ _ _
      | exact pin_Right.mono _ _
      | exact LeO.none _
      | refine LeO.ite ?_ ?_
      | refine LeO.bind ?_ (fun _ => ?_)
set_option maxHeartbeats 8000000 in
set_option maxRecDepth 100000 in
theorem pin_Add.calls (k : Nat) (A0 : Option Addr) (c0 : Nat) (l0 : List (S35)) (A1 : Option Addr) (c1 : Nat) (l1 : List (S35)) (r1 : List (S35)) (r2 : Int) (w : World) (hr0 : Kd.C k35 w A0 l0.length l0) (hc0 : l0.length ≤ c0) (hr1 : Kd.C k35 w A1 l1.length l1) (hc1 : l1.length ≤ c1) (h : pin_Add.f k l0 l1 = some (r1, r2)) :
    Calls Try.prog 8 #[.slice A0 l0.length c0, .slice A1 l1.length c1] w fun e w' => ∃ v0_ : Value, e = .returned (.tuple #[v0_, .int .i64 r2]) ∧ Kd.R k35 35 w' w.heap.size (fun _ => True) v0_ r1 ∧ Below w.heap.size w w' := by
  have hu35 := Try.underlying35
  have HR0 := Aside0.mk hr0
  have HC0 := Aside0.mk hc0
  clear hr0 hc0
  have HR1 := Aside0.mk hr1
  have HC1 := Aside0.mk hc1
  clear hr1 hc1
  have HB := Aside0.mk (Below.refl w.heap.size w)
  have H : ((pin_Right.f k l0).bind fun t115 => (if t115 = true then ((api_Pin_20.f l0).bind fun t116 => (pin_Add.l0 k t116 l1 (l1.length : Int) 0)) else (some (([] : List (S35)), 9)))) = some (r1, r2) := h
  clear h
  replace H := Option.bind_eq_some_iff.mp H
  obtain ⟨t115, A30, H⟩ := H
  replace H : (if t115 = true then ((api_Pin_20.f l0).bind fun t116 => (pin_Add.l0 k t116 l1 (l1.length : Int) 0)) else (some (([] : List (S35)), 9))) = some (r1, r2) := H
  have A3 := Aside0.mk A30
  clear A30
  by_cases c4 : t115 = true
  · subst c4
    have H1 : ((api_Pin_20.f l0).bind fun t116 => (pin_Add.l0 k t116 l1 (l1.length : Int) 0)) = some (r1, r2) := by rw [if_pos rfl] at H; exact H
    clear H
    have H := H1
    clear H1
    replace H := Option.bind_eq_some_iff.mp H
    obtain ⟨t116, A50, H⟩ := H
    replace H : (pin_Add.l0 k t116 l1 (l1.length : Int) 0) = some (r1, r2) := H
    have A5 := Aside0.mk A50
    clear A50
    have H' := Aside0.mk H
    clear H
    go_enter Try.func8, Try.ntmps8
    go_wp2_with (first | ((with_reducible refine gate_callee (f := 15) rfl ?_); refine goesL_ (some 12) rfl rfl Try.func15 (by kernel_rfl) rfl #[.slice A0 l0.length c0] rfl (by (try simp only [List.map_toArray, List.map_cons, List.map_nil]); first | done | rfl | (simp only [List.length_drop, List.length_take]; rfl)) ?_; (with_reducible refine (pin_Right.calls k _ _ l0 true _ ?side1 ?side2 A3.out).mono ?_); (case side1 => repeat (first | exact HR0.out | (with_reducible refine Kd.C_alloc ?_ _) | (with_reducible refine Kd.C_drewN ?_ _) | (with_reducible refine Kd.C_drew ?_))); (case side2 => exact HC0.out); rintro e w6 ⟨rfl, hb⟩; refine ⟨_, rfl, ?_⟩; have n0_ := Aside0.mk (below_step (by repeat (first | (with_reducible first | exact HB.out | apply below_alloc | apply pw_below_drewN | apply below_drew1) | exact HB.out)) hb); clear HB; have HB := n0_; clear n0_; (try clear hb); (try clear hb2); (try clear hk); (try clear hi)) | ((with_reducible refine gate_callee (f := 20) rfl ?_); refine goesL_ (some 15) rfl rfl Try.func20 (by kernel_rfl) rfl #[.slice A0 l0.length c0] rfl (by (try simp only [List.map_toArray, List.map_cons, List.map_nil]); first | done | rfl | (simp only [List.length_drop, List.length_take]; rfl)) ?_; (with_reducible refine (api_Pin_20.calls _ _ l0 t116 _ ?side1 ?side2 A5.out).mono ?_); (case side1 => repeat (first | exact (Kd.C_below HR0.out HB.out) | (with_reducible refine Kd.C_alloc ?_ _) | (with_reducible refine Kd.C_drewN ?_ _) | (with_reducible refine Kd.C_drew ?_))); (case side2 => exact HC0.out); rintro e w7 ⟨v117, rfl, ho0, hb⟩; refine ⟨_, rfl, ?_⟩; have n0_ := Aside0.mk (Kd.R_lower ho0 (below_size (by repeat (first | (with_reducible first | exact HB.out | apply below_alloc | apply pw_below_drewN | apply below_drew1) | exact HB.out)))); have n1_ := Aside0.mk (below_step (by repeat (first | (with_reducible first | exact HB.out | apply below_alloc | apply pw_below_drewN | apply below_drew1) | exact HB.out)) hb); clear HB; have HO118 := n0_; have HB := n1_; clear n0_ n1_; (try clear hb); (try clear hb2); (try clear hk); (try clear hi); (try clear ho0)))
    go_loopg [6, 18] k (fun kq v6 v18 w' => ∃ (x6_1 : List (S35)) (x18_1 : Int), v18 = .int .i64 x18_1 ∧ Aside0 (pin_Add.l0 kq x6_1 l1 (l1.length : Int) x18_1 = some (r1, r2)) ∧ Aside0 (kq ≤ k) ∧ Aside0 (Kd.R k35 35 w' w.heap.size (fun _ => True) v6 x6_1) ∧ Aside0 (Below w.heap.size w w'))
    case atStart => exact ⟨(t116), (0), (by first | rfl | (simp; done) | (simp [*]; done)), H', ⟨Nat.le_refl _⟩, ⟨by (with_reducible repeat (first | apply Kd.R_alloc | apply Kd.R_drewN | apply Kd.R_drew)); exact HO118.out⟩, ⟨by repeat (first | (with_reducible first | exact HB.out | apply below_alloc | apply pw_below_drewN | apply below_drew1) | exact HB.out)⟩⟩
    case round =>
      clear H'
      try clear c1
      try clear c2
      try clear p2
      try clear c4
      obtain ⟨x6_1, x18_1, rfl, HA, HK1, HO_6, HB⟩ := hrel
      cases gk with
      | zero => exact absurd HA.out (by simp [pin_Add.l0])
      | succ k1 =>
        have H := HA.out
        clear HA
        simp only [pin_Add.l0] at H
        by_cases c8 : x18_1 < (l1.length : Int)
        · rw [if_pos c8] at H
          have c8b0 : decide (x18_1 < (l1.length : Int)) = true := decide_eq_true c8
          clear c8
          by_cases c9 : 0 ≤ x18_1
          · rw [if_pos c9] at H
            have c9b0 : decide (0 ≤ x18_1) = true := decide_eq_true c9
            clear c9
            by_cases c10 : x18_1 < (l1.length : Int)
            · rw [if_pos c10] at H
              have c10b0 : decide (x18_1 < (l1.length : Int)) = true := decide_eq_true c10
              clear c10
              replace H := Option.bind_eq_some_iff.mp H
              obtain ⟨⟨t121, t122⟩, A110, H⟩ := H
              replace H : (if ((rd_T35 l1 x18_1).f1) < 0 then (some (([] : List (S35)), 1)) else (if t122 = true then (some (([] : List (S35)), 5)) else ((api_Pin_23.f x6_1 t121 (([(⟨(rd_T35 l1 x18_1).f0, (rd_T35 l1 x18_1).f1⟩ : S35)] : List (S35)))).bind fun t126 => (pin_Add.l0 k1 t126 l1 (l1.length : Int) (wrap64 (x18_1 + 1)))))) = some (r1, r2) := H
              have A11 := Aside0.mk A110
              clear A110
              by_cases c12 : ((rd_T35 l1 x18_1).f1) < 0
              · rw [if_pos c12] at H
                have c12b0 : decide (((rd_T35 l1 x18_1).f1) < 0) = true := decide_eq_true c12
                clear c12
                simp only [Option.some.injEq, Prod.mk.injEq] at H
                obtain ⟨rfl, rfl⟩ := H
                have p119 : 0 ≤ (x18_1 : Int) := of_decide_eq_true (by first | (with_reducible assumption) | assumption)
                have q119 : x18_1 < (l1.length : Int) := of_decide_eq_true (by first | (with_reducible assumption) | assumption)
                obtain ⟨ad119, e119, hx119_0, hx119_1⟩ := at_T35 HR1.out x18_1 p119 q119
                cases e119
                replace hx119_0 := (HB.out.cell (World.block_lt_of_cell? w _ hx119_0)).trans hx119_0
                replace hx119_1 := (HB.out.cell (World.block_lt_of_cell? w _ hx119_1)).trans hx119_1
                replace p119 := eq_true p119
                replace q119 := eq_true q119
                go_wp2_with (first | ((with_reducible refine gate_dst (N := 8) rfl ?_); refine box_event ?hg (N := 8) ?hd (cs := #[.int .i64 0, .int .i64 0]) (t := 35) ?hr ?_; (case hd => rfl); (case hg => rfl); (case hr => first | (go_simp; done) | (go_simp; rfl)); intro gb120 hg w13 hbox hb; have n0_ := Aside0.mk (Kd.R_below (Kd.R_elderB (by (with_reducible repeat (first | apply Kd.R_alloc | apply Kd.R_drewN | apply Kd.R_drew)); exact HO_6.out) gb120 (Nat.le_of_eq hg.symm)) hb); have n1_ := Aside0.mk (below_step (by repeat (first | (with_reducible first | exact HB.out | apply below_alloc | apply pw_below_drewN | apply below_drew1) | exact HB.out)) hb); have n2_ := Aside0.mk (hbox); have n3_ := Aside0.mk ((by rw [hg]; exact (below_size (by repeat (first | (with_reducible first | exact HB.out | apply below_alloc | apply pw_below_drewN | apply below_drew1) | exact HB.out))) : w.heap.size ≤ gb120)); have n4_ := Aside0.mk ((by rw [hg]; exact (below_size (by repeat (first | (with_reducible first | exact HB.out | apply below_alloc | apply pw_below_drewN | apply below_drew1) | exact HB.out))) : w.heap.size ≤ gb120)); clear HO_6; clear HB; have HO_6 := n0_; have HB := n1_; have BK120 := n2_; have GW120 := n3_; have GE120 := n4_; clear n0_ n1_ n2_ n3_ n4_; clear hb hbox hg; have hcz14_0 : w13.cell? ⟨gb120, 0, none⟩ = some (.int .i64 0) := (blk_cell BK120.out 0).trans rfl; have hcz14_1 : w13.cell? ⟨gb120, 1, none⟩ = some (.int .i64 0) := (blk_cell BK120.out 1).trans rfl; have hfz14_0 := blk_frozen BK120.out 0; have hfz14_1 := blk_frozen BK120.out 1; obtain ⟨Ao15, co15, eo15⟩ := Kd.R_slice HO_6.out; subst eo15) | ((with_reducible refine gate_callee (f := 21) rfl ?_); refine goesL_ (some 25) rfl rfl Try.func21 (by kernel_rfl) rfl #[.slice Ao15 x6_1.length co15, .agg #[.int .i64 ((rd_T35 l1 x18_1).f0), .int .i64 ((rd_T35 l1 x18_1).f1)], (.func (.func 22) #[] #[])] rfl (by (try simp only [List.map_toArray, List.map_cons, List.map_nil]); first | done | rfl | (simp only [List.length_drop, List.length_take]; rfl)) ?_; (with_reducible refine (api_Pin_21.calls k1 _ _ x6_1 ((rd_T35 l1 x18_1).f0) ((rd_T35 l1 x18_1).f1) t121 t122 _ ?side1 ?side2 A11.out).mono ?_); (case side1 => refine (Kd.R_reads' (e := 35) (base := w.heap.size) (ok := fun k_ => (True ∧ k_ ≠ gb120)) (n := x6_1.length) (c := co15) ?_).2.2; exact (by (with_reducible repeat (first | apply Kd.R_alloc | apply Kd.R_drewN | apply Kd.R_drew)); exact (Kd.R_mono (Kd.R_far (p := ⟨gb120, 1, none⟩) (Kd.R_far (p := ⟨gb120, 0, none⟩) (Kd.R_mono HO_6.out (fun k_ hk => (⟨hk, hk.2⟩ : _ ∧ k_ ≠ gb120))) (fun _ hk => hk.2) (.int .i64 ((rd_T35 l1 x18_1).f0))) (fun _ hk => hk.2) (.int .i64 ((rd_T35 l1 x18_1).f1))) (fun _ h_ => h_.1)))); (case side2 => exact (Kd.R_reads' HO_6.out).2.1); rintro e w16 ⟨rfl, hb⟩; refine ⟨_, rfl, ?_⟩; have n0_ := Aside0.mk (Kd.R_below (by (with_reducible repeat (first | apply Kd.R_alloc | apply Kd.R_drewN | apply Kd.R_drew)); exact (Kd.R_mono (Kd.R_far (p := ⟨gb120, 1, none⟩) (Kd.R_far (p := ⟨gb120, 0, none⟩) (Kd.R_mono HO_6.out (fun k_ hk => (⟨hk, hk.2⟩ : _ ∧ k_ ≠ gb120))) (fun _ hk => hk.2) (.int .i64 ((rd_T35 l1 x18_1).f0))) (fun _ hk => hk.2) (.int .i64 ((rd_T35 l1 x18_1).f1))) (fun _ h_ => h_.1))) hb); have n1_ := Aside0.mk (blk_below (g := gb120) (o := .cells #[.int .i64 ((rd_T35 l1 x18_1).f0), .int .i64 ((rd_T35 l1 x18_1).f1)] 35 (0, 0)) (by (with_reducible repeat (first | refine blk_drewN ?_ _ | refine blk_drew ?_ | refine blk_alloc ?_ _)); refine blk_put (cs := #[.int .i64 ((rd_T35 l1 x18_1).f0), .int .i64 0]) ?_ 1 _ rfl; (with_reducible repeat (first | refine blk_drewN ?_ _ | refine blk_drew ?_ | refine blk_alloc ?_ _)); refine blk_put (cs := #[.int .i64 0, .int .i64 0]) ?_ 0 _ rfl; (with_reducible repeat (first | refine blk_drewN ?_ _ | refine blk_drew ?_ | refine blk_alloc ?_ _)); exact BK120.out) hb); have n2_ := Aside0.mk (below_step (by repeat (first | (with_reducible first | exact HB.out | apply below_alloc | apply pw_below_drewN | apply below_drew1 | refine below_set ?_ GE120.out) | exact HB.out)) hb); clear HO_6; clear BK120; clear HB; have HO_6 := n0_; have BK120 := n1_; have HB := n2_; clear n0_ n1_ n2_; (try clear hb); (try clear hb2); (try clear hk); (try clear hi); have hcz17_0 : w16.cell? ⟨gb120, 0, none⟩ = some (.int .i64 ((rd_T35 l1 x18_1).f0)) := (blk_cell BK120.out 0).trans rfl; have hcz17_1 : w16.cell? ⟨gb120, 1, none⟩ = some (.int .i64 ((rd_T35 l1 x18_1).f1)) := (blk_cell BK120.out 1).trans rfl; have hfz17_0 := blk_frozen BK120.out 0; have hfz17_1 := blk_frozen BK120.out 1))
                go_ret2
                exact ⟨_, by first | rfl | (simp [errW_none, errW_some] <;> rfl) | (simp [*, errW_none, errW_some] <;> rfl), by first | exact Kd.R_nil _ _ _ _ _ | exact Kd.N_nil _ _ _ _ _ | exact Kd.V_nil _ _ _ _ _ | exact Kd.Q_nil _ _ _ _ _ | exact Kd.S_nil _ _ _ _ _, by repeat (first | (with_reducible first | exact HB.out | apply below_alloc | apply pw_below_drewN | apply below_drew1 | refine below_set ?_ GE120.out) | exact HB.out)⟩
              · rw [if_neg c12] at H
                have c12b0 : decide (((rd_T35 l1 x18_1).f1) < 0) = false := decide_eq_false c12
                clear c12
                by_cases c18 : t122 = true
                · subst c18
                  have H1 : (some (([] : List (S35)), 5)) = some (r1, r2) := by rw [if_pos rfl] at H; exact H
                  clear H
                  have H := H1
                  clear H1
                  simp only [Option.some.injEq, Prod.mk.injEq] at H
                  obtain ⟨rfl, rfl⟩ := H
                  have p119 : 0 ≤ (x18_1 : Int) := of_decide_eq_true (by first | (with_reducible assumption) | assumption)
                  have q119 : x18_1 < (l1.length : Int) := of_decide_eq_true (by first | (with_reducible assumption) | assumption)
                  obtain ⟨ad119, e119, hx119_0, hx119_1⟩ := at_T35 HR1.out x18_1 p119 q119
                  cases e119
                  replace hx119_0 := (HB.out.cell (World.block_lt_of_cell? w _ hx119_0)).trans hx119_0
                  replace hx119_1 := (HB.out.cell (World.block_lt_of_cell? w _ hx119_1)).trans hx119_1
                  replace p119 := eq_true p119
                  replace q119 := eq_true q119
                  go_wp2_with (first | ((with_reducible refine gate_dst (N := 8) rfl ?_); refine box_event ?hg (N := 8) ?hd (cs := #[.int .i64 0, .int .i64 0]) (t := 35) ?hr ?_; (case hd => rfl); (case hg => rfl); (case hr => first | (go_simp; done) | (go_simp; rfl)); intro gb120 hg w19 hbox hb; have n0_ := Aside0.mk (Kd.R_below (Kd.R_elderB (by (with_reducible repeat (first | apply Kd.R_alloc | apply Kd.R_drewN | apply Kd.R_drew)); exact HO_6.out) gb120 (Nat.le_of_eq hg.symm)) hb); have n1_ := Aside0.mk (below_step (by repeat (first | (with_reducible first | exact HB.out | apply below_alloc | apply pw_below_drewN | apply below_drew1) | exact HB.out)) hb); have n2_ := Aside0.mk (hbox); have n3_ := Aside0.mk ((by rw [hg]; exact (below_size (by repeat (first | (with_reducible first | exact HB.out | apply below_alloc | apply pw_below_drewN | apply below_drew1) | exact HB.out))) : w.heap.size ≤ gb120)); have n4_ := Aside0.mk ((by rw [hg]; exact (below_size (by repeat (first | (with_reducible first | exact HB.out | apply below_alloc | apply pw_below_drewN | apply below_drew1) | exact HB.out))) : w.heap.size ≤ gb120)); clear HO_6; clear HB; have HO_6 := n0_; have HB := n1_; have BK120 := n2_; have GW120 := n3_; have GE120 := n4_; clear n0_ n1_ n2_ n3_ n4_; clear hb hbox hg; have hcz20_0 : w19.cell? ⟨gb120, 0, none⟩ = some (.int .i64 0) := (blk_cell BK120.out 0).trans rfl; have hcz20_1 : w19.cell? ⟨gb120, 1, none⟩ = some (.int .i64 0) := (blk_cell BK120.out 1).trans rfl; have hfz20_0 := blk_frozen BK120.out 0; have hfz20_1 := blk_frozen BK120.out 1; obtain ⟨Ao21, co21, eo21⟩ := Kd.R_slice HO_6.out; subst eo21) | ((with_reducible refine gate_callee (f := 21) rfl ?_); refine goesL_ (some 25) rfl rfl Try.func21 (by kernel_rfl) rfl #[.slice Ao21 x6_1.length co21, .agg #[.int .i64 ((rd_T35 l1 x18_1).f0), .int .i64 ((rd_T35 l1 x18_1).f1)], (.func (.func 22) #[] #[])] rfl (by (try simp only [List.map_toArray, List.map_cons, List.map_nil]); first | done | rfl | (simp only [List.length_drop, List.length_take]; rfl)) ?_; (with_reducible refine (api_Pin_21.calls k1 _ _ x6_1 ((rd_T35 l1 x18_1).f0) ((rd_T35 l1 x18_1).f1) t121 true _ ?side1 ?side2 A11.out).mono ?_); (case side1 => refine (Kd.R_reads' (e := 35) (base := w.heap.size) (ok := fun k_ => (True ∧ k_ ≠ gb120)) (n := x6_1.length) (c := co21) ?_).2.2; exact (by (with_reducible repeat (first | apply Kd.R_alloc | apply Kd.R_drewN | apply Kd.R_drew)); exact (Kd.R_mono (Kd.R_far (p := ⟨gb120, 1, none⟩) (Kd.R_far (p := ⟨gb120, 0, none⟩) (Kd.R_mono HO_6.out (fun k_ hk => (⟨hk, hk.2⟩ : _ ∧ k_ ≠ gb120))) (fun _ hk => hk.2) (.int .i64 ((rd_T35 l1 x18_1).f0))) (fun _ hk => hk.2) (.int .i64 ((rd_T35 l1 x18_1).f1))) (fun _ h_ => h_.1)))); (case side2 => exact (Kd.R_reads' HO_6.out).2.1); rintro e w22 ⟨rfl, hb⟩; refine ⟨_, rfl, ?_⟩; have n0_ := Aside0.mk (Kd.R_below (by (with_reducible repeat (first | apply Kd.R_alloc | apply Kd.R_drewN | apply Kd.R_drew)); exact (Kd.R_mono (Kd.R_far (p := ⟨gb120, 1, none⟩) (Kd.R_far (p := ⟨gb120, 0, none⟩) (Kd.R_mono HO_6.out (fun k_ hk => (⟨hk, hk.2⟩ : _ ∧ k_ ≠ gb120))) (fun _ hk => hk.2) (.int .i64 ((rd_T35 l1 x18_1).f0))) (fun _ hk => hk.2) (.int .i64 ((rd_T35 l1 x18_1).f1))) (fun _ h_ => h_.1))) hb); have n1_ := Aside0.mk (blk_below (g := gb120) (o := .cells #[.int .i64 ((rd_T35 l1 x18_1).f0), .int .i64 ((rd_T35 l1 x18_1).f1)] 35 (0, 0)) (by (with_reducible repeat (first | refine blk_drewN ?_ _ | refine blk_drew ?_ | refine blk_alloc ?_ _)); refine blk_put (cs := #[.int .i64 ((rd_T35 l1 x18_1).f0), .int .i64 0]) ?_ 1 _ rfl; (with_reducible repeat (first | refine blk_drewN ?_ _ | refine blk_drew ?_ | refine blk_alloc ?_ _)); refine blk_put (cs := #[.int .i64 0, .int .i64 0]) ?_ 0 _ rfl; (with_reducible repeat (first | refine blk_drewN ?_ _ | refine blk_drew ?_ | refine blk_alloc ?_ _)); exact BK120.out) hb); have n2_ := Aside0.mk (below_step (by repeat (first | (with_reducible first | exact HB.out | apply below_alloc | apply pw_below_drewN | apply below_drew1 | refine below_set ?_ GE120.out) | exact HB.out)) hb); clear HO_6; clear BK120; clear HB; have HO_6 := n0_; have BK120 := n1_; have HB := n2_; clear n0_ n1_ n2_; (try clear hb); (try clear hb2); (try clear hk); (try clear hi); have hcz23_0 : w22.cell? ⟨gb120, 0, none⟩ = some (.int .i64 ((rd_T35 l1 x18_1).f0)) := (blk_cell BK120.out 0).trans rfl; have hcz23_1 : w22.cell? ⟨gb120, 1, none⟩ = some (.int .i64 ((rd_T35 l1 x18_1).f1)) := (blk_cell BK120.out 1).trans rfl; have hfz23_0 := blk_frozen BK120.out 0; have hfz23_1 := blk_frozen BK120.out 1))
                  go_ret2
                  exact ⟨_, by first | rfl | (simp [errW_none, errW_some] <;> rfl) | (simp [*, errW_none, errW_some] <;> rfl), by first | exact Kd.R_nil _ _ _ _ _ | exact Kd.N_nil _ _ _ _ _ | exact Kd.V_nil _ _ _ _ _ | exact Kd.Q_nil _ _ _ _ _ | exact Kd.S_nil _ _ _ _ _, by repeat (first | (with_reducible first | exact HB.out | apply below_alloc | apply pw_below_drewN | apply below_drew1 | refine below_set ?_ GE120.out) | exact HB.out)⟩
                · replace c18 := Bool.eq_false_iff.mpr c18
                  subst c18
                  have H1 : ((api_Pin_23.f x6_1 t121 (([(⟨(rd_T35 l1 x18_1).f0, (rd_T35 l1 x18_1).f1⟩ : S35)] : List (S35)))).bind fun t126 => (pin_Add.l0 k1 t126 l1 (l1.length : Int) (wrap64 (x18_1 + 1)))) = some (r1, r2) := by rw [if_neg (show ¬ (false = true) by decide)] at H; exact H
                  clear H
                  have H := H1
                  clear H1
                  obtain ⟨y123, hy123⟩ : ∃ y_ : List (S35), y_ = (([(⟨(rd_T35 l1 x18_1).f0, (rd_T35 l1 x18_1).f1⟩ : S35)] : List (S35))) := ⟨_, rfl⟩
                  replace H : ((api_Pin_23.f x6_1 t121 y123).bind fun t126 => (pin_Add.l0 k1 t126 l1 (l1.length : Int) (wrap64 (x18_1 + 1)))) = some (r1, r2) := by first | (rw [hy123]; with_reducible exact H) | (have H2_ := (Option.bind_some _ _).symm.trans H; rw [hy123]; with_reducible exact H2_) | (have H2_ := (Option.bind_some _ _).symm.trans H; with_reducible exact H2_) | with_reducible exact H | (rw [hy123]; exact H) | exact H
                  have Ny123 := Aside0.mk hy123
                  clear hy123
                  replace H := Option.bind_eq_some_iff.mp H
                  obtain ⟨t126, A240, H⟩ := H
                  replace H : (pin_Add.l0 k1 t126 l1 (l1.length : Int) (wrap64 (x18_1 + 1))) = some (r1, r2) := H
                  have A24 := Aside0.mk A240
                  clear A240
                  have H' := Aside0.mk H
                  clear H
                  have p119 : 0 ≤ (x18_1 : Int) := of_decide_eq_true (by first | (with_reducible assumption) | assumption)
                  have q119 : x18_1 < (l1.length : Int) := of_decide_eq_true (by first | (with_reducible assumption) | assumption)
                  obtain ⟨ad119, e119, hx119_0, hx119_1⟩ := at_T35 HR1.out x18_1 p119 q119
                  cases e119
                  replace hx119_0 := (HB.out.cell (World.block_lt_of_cell? w _ hx119_0)).trans hx119_0
                  replace hx119_1 := (HB.out.cell (World.block_lt_of_cell? w _ hx119_1)).trans hx119_1
                  replace p119 := eq_true p119
                  replace q119 := eq_true q119
                  go_wp2_with (first | ((with_reducible refine gate_dst (N := 8) rfl ?_); refine box_event ?hg (N := 8) ?hd (cs := #[.int .i64 0, .int .i64 0]) (t := 35) ?hr ?_; (case hd => rfl); (case hg => rfl); (case hr => first | (go_simp; done) | (go_simp; rfl)); intro gb120 hg w25 hbox hb; have n0_ := Aside0.mk (Kd.R_below (Kd.R_elderB (by (with_reducible repeat (first | apply Kd.R_alloc | apply Kd.R_drewN | apply Kd.R_drew)); exact HO_6.out) gb120 (Nat.le_of_eq hg.symm)) hb); have n1_ := Aside0.mk (below_step (by repeat (first | (with_reducible first | exact HB.out | apply below_alloc | apply pw_below_drewN | apply below_drew1) | exact HB.out)) hb); have n2_ := Aside0.mk (hbox); have n3_ := Aside0.mk ((by rw [hg]; exact (below_size (by repeat (first | (with_reducible first | exact HB.out | apply below_alloc | apply pw_below_drewN | apply below_drew1) | exact HB.out))) : w.heap.size ≤ gb120)); have n4_ := Aside0.mk ((by rw [hg]; exact (below_size (by repeat (first | (with_reducible first | exact HB.out | apply below_alloc | apply pw_below_drewN | apply below_drew1) | exact HB.out))) : w.heap.size ≤ gb120)); clear HO_6; clear HB; have HO_6 := n0_; have HB := n1_; have BK120 := n2_; have GW120 := n3_; have GE120 := n4_; clear n0_ n1_ n2_ n3_ n4_; clear hb hbox hg; have hcz26_0 : w25.cell? ⟨gb120, 0, none⟩ = some (.int .i64 0) := (blk_cell BK120.out 0).trans rfl; have hcz26_1 : w25.cell? ⟨gb120, 1, none⟩ = some (.int .i64 0) := (blk_cell BK120.out 1).trans rfl; have hfz26_0 := blk_frozen BK120.out 0; have hfz26_1 := blk_frozen BK120.out 1; obtain ⟨Ao27, co27, eo27⟩ := Kd.R_slice HO_6.out; subst eo27) | ((with_reducible refine gate_callee (f := 21) rfl ?_); refine goesL_ (some 25) rfl rfl Try.func21 (by kernel_rfl) rfl #[.slice Ao27 x6_1.length co27, .agg #[.int .i64 ((rd_T35 l1 x18_1).f0), .int .i64 ((rd_T35 l1 x18_1).f1)], (.func (.func 22) #[] #[])] rfl (by (try simp only [List.map_toArray, List.map_cons, List.map_nil]); first | done | rfl | (simp only [List.length_drop, List.length_take]; rfl)) ?_; (with_reducible refine (api_Pin_21.calls k1 _ _ x6_1 ((rd_T35 l1 x18_1).f0) ((rd_T35 l1 x18_1).f1) t121 false _ ?side1 ?side2 A11.out).mono ?_); (case side1 => refine (Kd.R_reads' (e := 35) (base := w.heap.size) (ok := fun k_ => (True ∧ k_ ≠ gb120)) (n := x6_1.length) (c := co27) ?_).2.2; exact (by (with_reducible repeat (first | apply Kd.R_alloc | apply Kd.R_drewN | apply Kd.R_drew)); exact (Kd.R_mono (Kd.R_far (p := ⟨gb120, 1, none⟩) (Kd.R_far (p := ⟨gb120, 0, none⟩) (Kd.R_mono HO_6.out (fun k_ hk => (⟨hk, hk.2⟩ : _ ∧ k_ ≠ gb120))) (fun _ hk => hk.2) (.int .i64 ((rd_T35 l1 x18_1).f0))) (fun _ hk => hk.2) (.int .i64 ((rd_T35 l1 x18_1).f1))) (fun _ h_ => h_.1)))); (case side2 => exact (Kd.R_reads' HO_6.out).2.1); rintro e w28 ⟨rfl, hb⟩; refine ⟨_, rfl, ?_⟩; have n0_ := Aside0.mk (Kd.R_below (by (with_reducible repeat (first | apply Kd.R_alloc | apply Kd.R_drewN | apply Kd.R_drew)); exact (Kd.R_mono (Kd.R_far (p := ⟨gb120, 1, none⟩) (Kd.R_far (p := ⟨gb120, 0, none⟩) (Kd.R_mono HO_6.out (fun k_ hk => (⟨hk, hk.2⟩ : _ ∧ k_ ≠ gb120))) (fun _ hk => hk.2) (.int .i64 ((rd_T35 l1 x18_1).f0))) (fun _ hk => hk.2) (.int .i64 ((rd_T35 l1 x18_1).f1))) (fun _ h_ => h_.1))) hb); have n1_ := Aside0.mk (blk_below (g := gb120) (o := .cells #[.int .i64 ((rd_T35 l1 x18_1).f0), .int .i64 ((rd_T35 l1 x18_1).f1)] 35 (0, 0)) (by (with_reducible repeat (first | refine blk_drewN ?_ _ | refine blk_drew ?_ | refine blk_alloc ?_ _)); refine blk_put (cs := #[.int .i64 ((rd_T35 l1 x18_1).f0), .int .i64 0]) ?_ 1 _ rfl; (with_reducible repeat (first | refine blk_drewN ?_ _ | refine blk_drew ?_ | refine blk_alloc ?_ _)); refine blk_put (cs := #[.int .i64 0, .int .i64 0]) ?_ 0 _ rfl; (with_reducible repeat (first | refine blk_drewN ?_ _ | refine blk_drew ?_ | refine blk_alloc ?_ _)); exact BK120.out) hb); have n2_ := Aside0.mk (below_step (by repeat (first | (with_reducible first | exact HB.out | apply below_alloc | apply pw_below_drewN | apply below_drew1 | refine below_set ?_ GE120.out) | exact HB.out)) hb); clear HO_6; clear BK120; clear HB; have HO_6 := n0_; have BK120 := n1_; have HB := n2_; clear n0_ n1_ n2_; (try clear hb); (try clear hb2); (try clear hk); (try clear hi); have hcz29_0 : w28.cell? ⟨gb120, 0, none⟩ = some (.int .i64 ((rd_T35 l1 x18_1).f0)) := (blk_cell BK120.out 0).trans rfl; have hcz29_1 : w28.cell? ⟨gb120, 1, none⟩ = some (.int .i64 ((rd_T35 l1 x18_1).f1)) := (blk_cell BK120.out 1).trans rfl; have hfz29_0 := blk_frozen BK120.out 0; have hfz29_1 := blk_frozen BK120.out 1) | ((with_reducible refine gate_dst (N := 37) rfl ?_); refine Kd.R_lit k35 _ 35 ?hg (N := 37) ?hd (xs := ([(⟨(rd_T35 l1 x18_1).f0, (rd_T35 l1 x18_1).f1⟩ : S35)] : List (S35))) (inner := [.int .i64 ((rd_T35 l1 x18_1).f0), .int .i64 ((rd_T35 l1 x18_1).f1)]) (ok := fun _ => True) (okp := fun _ => True) ?hr ?hp (fun _ hk => hk) trivial (Below.refl _ _) (Nat.le_refl _) (by simp) ?_; (case hd => rfl); (case hg => rfl); (case hr => first | (go_simp; done) | (go_simp; rfl)); (case hp => exact (Reps.c2 (show Kd.M k35 _ _ _ (⟨(rd_T35 l1 x18_1).f0, (rd_T35 l1 x18_1).f1⟩ : S35) [.int .i64 ((rd_T35 l1 x18_1).f0), .int .i64 ((rd_T35 l1 x18_1).f1)] from (k35_mkM _ _ _ (⟨(rd_T35 l1 x18_1).f0, (rd_T35 l1 x18_1).f1⟩ : S35) )) (Reps.none _ _))); intro v124 w30 ho31 hb hg_ hnew_; clear hg_ hnew_; (first | rw [← Ny123.out] at ho31 | (simp only [Int.reduceToNat] at ho31; rw [← Ny123.out] at ho31)); have n0_ := Aside0.mk (Kd.R_elder' (by (with_reducible repeat (first | apply Kd.R_alloc | apply Kd.R_drewN | apply Kd.R_drew)); exact HO_6.out) (Kd.R_base ho31) hb); have n1_ := Aside0.mk (Kd.R_lower (Kd.R_newB (Kd.R_new' ho31 (Kd.R_lt (by (with_reducible repeat (first | apply Kd.R_alloc | apply Kd.R_drewN | apply Kd.R_drew)); exact HO_6.out))) (g := gb120) (o := .cells #[.int .i64 ((rd_T35 l1 x18_1).f0), .int .i64 ((rd_T35 l1 x18_1).f1)] 35 (0, 0)) (by (with_reducible repeat (first | refine blk_drewN ?_ _ | refine blk_drew ?_ | refine blk_alloc ?_ _)); exact BK120.out)) (below_size (by repeat (first | (with_reducible first | exact HB.out | apply below_alloc | apply pw_below_drewN | apply below_drew1 | refine below_set ?_ GE120.out) | exact HB.out)))); have n2_ := Aside0.mk (blk_below (g := gb120) (o := .cells #[.int .i64 ((rd_T35 l1 x18_1).f0), .int .i64 ((rd_T35 l1 x18_1).f1)] 35 (0, 0)) (by (with_reducible repeat (first | refine blk_drewN ?_ _ | refine blk_drew ?_ | refine blk_alloc ?_ _)); exact BK120.out) hb); have n3_ := Aside0.mk (below_step (by repeat (first | (with_reducible first | exact HB.out | apply below_alloc | apply pw_below_drewN | apply below_drew1 | refine below_set ?_ GE120.out) | exact HB.out)) hb); clear HO_6; clear BK120; clear HB; have HO_6 := n0_; have HO125 := n1_; have BK120 := n2_; have HB := n3_; clear n0_ n1_ n2_ n3_; clear hb ho31; obtain ⟨Ao32, co32, eo32⟩ := Kd.R_slice HO125.out; subst eo32) | ((with_reducible refine gate_callee (f := 23) rfl ?_); refine goesL_ (some 38) rfl rfl Try.func23 (by kernel_rfl) rfl #[.slice Ao27 x6_1.length co27, .int .i64 t121, .slice Ao32 y123.length co32] rfl (by (try simp only [List.map_toArray, List.map_cons, List.map_nil]); first | done | rfl | (simp only [List.length_drop, List.length_take]; rfl)) ?_; (with_reducible refine (api_Pin_23.calls (fun k_ => some k_ = (.slice Ao27 x6_1.length co27 : Value).ownBlock) (.slice Ao27 x6_1.length co27) x6_1 t121 (fun k_ => some k_ = (.slice Ao32 y123.length co32 : Value).ownBlock) (.slice Ao32 y123.length co32) y123 t126 w _ ?side1 ?side2 ?side3 ?side4 ?side5 A24.out).mono ?_); (case side1 => repeat (first | (with_reducible first | exact HB.out | apply below_alloc | apply pw_below_drewN | apply below_drew1 | refine below_set ?_ GE120.out) | exact HB.out)); (case side2 => exact Kd.R_tight rfl HO_6.out); (case side3 => exact fun k_ e_ => (HO_6.out.1 k_ e_.symm).2); (case side4 => exact Kd.R_tight rfl HO125.out); (case side5 => exact fun k_ e_ => (HO125.out.1 k_ e_.symm).1.2); rintro e w33 ⟨v127, rfl, ho0, hb, hkp⟩; refine ⟨_, rfl, ?_⟩; have n0_ := Aside0.mk (blk_kept (by (with_reducible repeat (first | refine blk_drewN ?_ _ | refine blk_drew ?_ | refine blk_alloc ?_ _)); exact BK120.out) hkp (fun hs_ => Or.elim hs_ (fun e_ => (fun e_ => (Kd.R_away HO_6.out (fun _ hk => hk.1.2)) e_) e_) (fun e_ => (fun e_ => (Kd.R_away HO125.out (fun _ hk => hk.2)) e_) e_))); have n1_ := Aside0.mk (Kd.R_mono (ok' := fun k_ => k_ ≠ gb120) ho0 (fun k_ hk_ => Or.elim hk_ (fun hs_ => Or.elim hs_ (fun hs_ => fun e_ => (Kd.R_away HO_6.out (fun _ hk => hk.1.2)) (by rw [← e_]; exact hs_)) (fun hs_ => fun e_ => (Kd.R_away HO125.out (fun _ hk => hk.2)) (by rw [← e_]; exact hs_))) (fun hn_ => (Kd.freshB (g := gb120) (o := .cells #[.int .i64 ((rd_T35 l1 x18_1).f0), .int .i64 ((rd_T35 l1 x18_1).f1)] 35 (0, 0)) (by (with_reducible repeat (first | refine blk_drewN ?_ _ | refine blk_drew ?_ | refine blk_alloc ?_ _)); exact BK120.out) k_ hn_)))); have n2_ := Aside0.mk (hb); clear BK120; clear HB; clear HO125; clear HO_6; have BK120 := n0_; have HO128 := n1_; have HB := n2_; clear n0_ n1_ n2_; (try clear hb); (try clear hkp); (try clear ho0)))
                  go_roundg k1
                  case measure => have := HK1.out; omega
                  case rel => exact ⟨(t126), (wrap64 (x18_1 + 1)), (by first | rfl | (simp; done) | (simp [*]; done)), H', ⟨by have := HK1.out; omega⟩, ⟨by (with_reducible repeat (first | apply Kd.R_alloc | apply Kd.R_drewN | apply Kd.R_drew)); exact Kd.R_mono HO128.out (fun _ hk => trivial)⟩, ⟨by repeat (first | (with_reducible first | exact HB.out | apply below_alloc | apply pw_below_drewN | apply below_drew1 | refine below_set ?_ GE120.out) | exact HB.out)⟩⟩
            · rw [if_neg c10] at H
              exact absurd H (by simp)
          · rw [if_neg c9] at H
            exact absurd H (by simp)
        · rw [if_neg c8] at H
          have c8b0 : decide (x18_1 < (l1.length : Int)) = false := decide_eq_false c8
          clear c8
          simp only [Option.some.injEq, Prod.mk.injEq] at H
          obtain ⟨rfl, rfl⟩ := H
          go_wp2
          go_ret2
          exact ⟨_, by first | rfl | (simp [errW_none, errW_some] <;> rfl) | (simp [*, errW_none, errW_some] <;> rfl), by (with_reducible repeat (first | apply Kd.R_alloc | apply Kd.R_drewN | apply Kd.R_drew)); exact HO_6.out, by repeat (first | (with_reducible first | exact HB.out | apply below_alloc | apply pw_below_drewN | apply below_drew1) | exact HB.out)⟩
  · replace c4 := Bool.eq_false_iff.mpr c4
    subst c4
    have H1 : (some (([] : List (S35)), 9)) = some (r1, r2) := by rw [if_neg (show ¬ (false = true) by decide)] at H; exact H
    clear H
    have H := H1
    clear H1
    simp only [Option.some.injEq, Prod.mk.injEq] at H
    obtain ⟨rfl, rfl⟩ := H
    go_enter Try.func8, Try.ntmps8
    go_wp2_with (first | ((with_reducible refine gate_callee (f := 15) rfl ?_); refine goesL_ (some 12) rfl rfl Try.func15 (by kernel_rfl) rfl #[.slice A0 l0.length c0] rfl (by (try simp only [List.map_toArray, List.map_cons, List.map_nil]); first | done | rfl | (simp only [List.length_drop, List.length_take]; rfl)) ?_; (with_reducible refine (pin_Right.calls k _ _ l0 false _ ?side1 ?side2 A3.out).mono ?_); (case side1 => repeat (first | exact HR0.out | (with_reducible refine Kd.C_alloc ?_ _) | (with_reducible refine Kd.C_drewN ?_ _) | (with_reducible refine Kd.C_drew ?_))); (case side2 => exact HC0.out); rintro e w34 ⟨rfl, hb⟩; refine ⟨_, rfl, ?_⟩; have n0_ := Aside0.mk (below_step (by repeat (first | (with_reducible first | exact HB.out | apply below_alloc | apply pw_below_drewN | apply below_drew1) | exact HB.out)) hb); clear HB; have HB := n0_; clear n0_; (try clear hb); (try clear hb2); (try clear hk); (try clear hi)))
    go_ret2
    exact ⟨_, by first | rfl | (simp [errW_none, errW_some] <;> rfl) | (simp [*, errW_none, errW_some] <;> rfl), by first | exact Kd.R_nil _ _ _ _ _ | exact Kd.N_nil _ _ _ _ _ | exact Kd.V_nil _ _ _ _ _ | exact Kd.Q_nil _ _ _ _ _ | exact Kd.S_nil _ _ _ _ _, by repeat (first | (with_reducible first | exact HB.out | apply below_alloc | apply pw_below_drewN | apply below_drew1) | exact HB.out)⟩

end Go.Proofs.Ythgoegjkiofbkaa.X
