/- Printed by a program of this session's own: what functions of the program compute, and that the machine computes it. No condition of its own. -/
import Derived.Test.YtgcbejidponoaaaGreatDoorM3
import Derived.Test.YtgcbejidponoaaaGreatDoorM4
namespace Go.Proofs.YtgcbejidponoaaaGreatDoor.X
open Go.RowKit Go.Proofs.YtgcbejidponoaaaGreatDoorW.PrintWords Go.Proofs.YtgcbejidponoaaaGreatDoorW.PrintLast Go.Proofs.YtgcbejidponoaaaGreatDoorW.PrintMore
attribute [local go_sem] max2_int min2_int max_two min_two max_three min_three max_four min_four
set_option linter.unusedVariables false
set_option linter.unusedSimpArgs false
set_option maxHeartbeats 8000000
set_option maxRecDepth 100000
def r03_Parse.l0 : Nat → List (S98) → List ByteArray → Int → Option ((List (S98)) × Int)
 | 0, _, _, _ => none
 | k + 1, x4, x5, x6 => if x6 < (x5.length : Int) then (if 0 ≤ x6 then ((r02_Split.f k (rdOf ByteArray.empty x5 x6) 61).bind fun t171 => (if (t171.length : Int) < 2 then (some (([] : List (S98)), 2)) else (if 0 < (t171.length : Int) then (if 1 ≤ (t171.length : Int) then ((r02_Join.f k (⟨#[61]⟩ : ByteArray) (t171.drop 1)).bind fun t179 => (if x4.length < 4398046511104 then (r03_Parse.l0 k (x4 ++ [(⟨rdOf ByteArray.empty t171 0, t179⟩ : S98)]) x5 (wrap64 (x6 + 1))) else (none))) else (none)) else (none)))) else (none)) else ((r03_Canon.f k x4).bind fun bt166 => (some (bt166.1, bt166.2)))
def r03_Parse.f (k : Nat) (a0 : ByteArray) : Option ((List (S98)) × Int) := if a0.toList = ([] : List UInt8) then (some (([] : List (S98)), 0)) else ((r02_Split.f k a0 44).bind fun t163 => (r03_Parse.l0 k ([] : List (S98)) t163 0))
theorem r03_Parse.mono_l : ∀ k, (∀ y0 y1 y2, LeC (r03_Parse.l0 k y0 y1 y2) (r03_Parse.l0 (k + 1) y0 y1 y2))
 | 0 => fun _ _ _ => ⟨fun r h => by simp [r03_Parse.l0] at h⟩
 | k + 1 => by have ih0 := r03_Parse.mono_l k; exact fun _ _ _ => by unfold r03_Parse.l0; exact lm
theorem r03_Parse.mono : ∀ a0 k, LeO (r03_Parse.f k a0) (r03_Parse.f (k + 1) a0) := by
 intro a0 k
 have ih0 := r03_Parse.mono_l k
 unfold r03_Parse.f
 exact lo
instance r03_Parse.mI {a0 k} : LeC (r03_Parse.f k a0) (r03_Parse.f (k + 1) a0) := ⟨r03_Parse.mono _ _⟩
def r03_Parse.T11 : Bool × List (List Nat × List Nat) := (true, [([], []), ([], []), ([1], [1]), ([2], [2]), ([], []), ([4], [4]), ([5], [5]), ([3, 6], [3, 6]), ([7], [7]), ([0, 8, 6], [0, 8]), ([9, 9, 0, 1, 2, 3, 4, 5, 6, 7, 8, 9], [0, 9])])
def r03_Parse.B11 : List Nat := [0, 0, 2, 6, 0, 16, 48, 126, 254, 511, 1023]
theorem r03_Parse.tab11 : rtab .any (opsOf Tryz.f61 11) = r03_Parse.T11 := by kernel_rfl
theorem r03_Parse.bits11 : waitsOk r03_Parse.T11.2 r03_Parse.B11 = true := by kernel_rfl
theorem r03_Parse.calls (k : Nat) (a0 : ByteArray) (r1 : List (S98)) (r2 : Int) (w : World) (h : r03_Parse.f k a0 = some (r1, r2)) :
 Calls Tryz.prog 61 #[.string a0] w fun e w' => ∃ v0_ : Value, e = .returned (.tuple #[v0_, .int .i64 r2]) ∧ Kd.R k98 98 w' w.heap.size (fun _ => True) v0_ r1 ∧ Below w.heap.size w w' := by
 have hu98 := Tryz.underlying98
 have HB := Aside0.mk (Below.refl w.heap.size w)
 have H : (if a0.toList = ([] : List UInt8) then (some (([] : List (S98)), 0)) else ((r02_Split.f k a0 44).bind fun t163 => (r03_Parse.l0 k ([] : List (S98)) t163 0))) = some (r1, r2) := h
 clear h
 by_cases c2 : a0.toList = ([] : List UInt8)
 ·
  rw [if_pos c2] at H
  have c2b0 : (a0.toList == ([] : List UInt8)) = true := beq_iff_eq.mpr c2
  have c2b1 : (a0.toList != ([] : List UInt8)) = false := bne_eq_false_iff_eq.mpr c2
  clear c2
  simp only [Option.some.injEq, Prod.mk.injEq] at H
  obtain ⟨rfl, rfl⟩ := H
  go_enter Tryz.func61, Tryz.ntmps61
  go_wp2
  go_ret2
  exact ⟨_, re_, nl_, uW HB.out⟩
 ·
  rw [if_neg c2] at H
  have c2b0 : (a0.toList == ([] : List UInt8)) = false := beq_eq_false_iff_ne.mpr c2
  have c2b1 : (a0.toList != ([] : List UInt8)) = true := bne_iff_ne.mpr c2
  obtain ⟨t163, A3, H⟩ := bs H
  try dsimp only at H
  have H' := Aside0.mk H
  clear H
  go_enter Tryz.func61, Tryz.ntmps61
  go_wp2_with (first | (refine gL (some 11) rfl Tryz.func41 #[.string a0, .int .u8 44] ?_; (with_reducible refine (r02_Split.calls k a0 44 t163 _ A3.out).mono ?_); rintro e w4 ⟨v164, rfl, ho0, hb⟩; refine ⟨_, rfl, ?_⟩; have HO165 := Aside0.mk (Kd.R_lower ho0 (below_size (uW HB.out))); replace HB := cW HB hb; (try clear hb); (try clear ho0)))
  (try simp only [Act.put, List.setIfInBounds_toArray, List.set_cons_zero, List.set_cons_succ])
  go_loopg [4, 6] k (fun kq v4 v6 w' => ∃ (x4_1 : List (S98)) (x6_1 : Int), v6 = .int .i64 x6_1 ∧ Aside0 (r03_Parse.l0 kq x4_1 t163 x6_1 = some (r1, r2)) ∧ Aside0 (kq ≤ k) ∧ Aside0 (Kd.R k98 98 w' w.heap.size (fun _ => True) v4 x4_1) ∧ Aside0 (Kd.R Kd.string 9 w' w.heap.size (fun _ => True) v164 t163) ∧ Aside0 (Below w.heap.size w w'))
  case atStart => exact ⟨(([] : List (S98))), (0), rs_, H', ⟨Nat.le_refl _⟩, ⟨nl_⟩, ⟨uR HO165.out⟩, ⟨uW HB.out⟩⟩
  case round =>
   clear H'
   try clear c2
   try clear c2b0
   try clear c2b1
   try clear p2
   try clear c4
   obtain ⟨x4_1, x6_1, rfl, HA, HK1, HO_4, HO_5, HB⟩ := hrel
   cases gk with
   | zero => exact absurd HA.out (by simp [r03_Parse.l0])
   | succ k1 =>
    have H := HA.out
    clear HA
    simp only [r03_Parse.l0] at H
    by_cases c5 : x6_1 < (t163.length : Int)
    ·
     rw [if_pos c5] at H
     have c5b0 : decide (x6_1 < (t163.length : Int)) = true := decide_eq_true c5
     clear c5
     obtain ⟨c6b0, H⟩ := gdd H
     obtain ⟨t171, A7, H⟩ := bs H
     try dsimp only at H
     by_cases c8 : (t171.length : Int) < 2
     ·
      rw [if_pos c8] at H
      have c8b0 : decide ((t171.length : Int) < 2) = true := decide_eq_true c8
      have c8b1 : decide (t171.length < 2) = true := decide_eq_true (by omega)
      clear c8
      simp only [Option.some.injEq, Prod.mk.injEq] at H
      obtain ⟨rfl, rfl⟩ := H
      obtain ⟨Ao9, co9, eo9⟩ := Kd.R_slice HO_5.out
      subst eo9
      have p170 : 0 ≤ (x6_1 : Int) := od
      have q170 : x6_1 < (t163.length : Int) := od
      obtain ⟨ad170, e170, hx170_0⟩ := Kd.at_string (Kd.R_reads' HO_5.out).2.2 x6_1 p170 q170
      cases e170
      replace p170 := eq_true p170
      replace q170 := eq_true q170
      go_wp2_with (first | (refine gL (some 22) rfl Tryz.func41 #[.string (rdOf ByteArray.empty t163 x6_1), .int .u8 61] ?_; (with_reducible refine (r02_Split.calls k1 (rdOf ByteArray.empty t163 x6_1) 61 t171 _ A7.out).mono ?_); rintro e w10 ⟨v172, rfl, ho0, hb⟩; refine ⟨_, rfl, ?_⟩; replace HO_4 := cR HO_4 hb; have HO173 := Aside0.mk (Kd.R_lower (Kd.R_new' ho0 (Kd.R_lt (uR HO_5.out))) (below_size (uW HB.out))); replace HO_5 := Aside0.mk (Kd.R_elder' (uR HO_5.out) (Kd.R_base ho0) hb); replace HB := cW HB hb; (try clear hb); (try clear ho0); obtain ⟨Ao11, co11, eo11⟩ := Kd.R_slice HO173.out; subst eo11))
      go_ret2
      exact ⟨_, re_, nl_, uW HB.out⟩
     ·
      rw [if_neg c8] at H
      have c8b0 : decide ((t171.length : Int) < 2) = false := decide_eq_false c8
      have c8b1 : decide (t171.length < 2) = false := decide_eq_false (by omega)
      clear c8
      obtain ⟨c12, H⟩ := gd H
      have c12b0 : decide (0 < (t171.length : Int)) = true := decide_eq_true c12
      have c12b1 : decide (0 < t171.length) = true := decide_eq_true (by omega)
      clear c12
      obtain ⟨c13, H⟩ := gd H
      have c13b0 := eq_true c13
      have c13b1 : decide (1 ≤ (t171.length : Int)) = true := decide_eq_true c13
      clear c13
      obtain ⟨y175, hy175⟩ : ∃ y_ : List ByteArray, y_ = (t171.drop 1) := ⟨_, rfl⟩
      replace H : ((r02_Join.f k1 (⟨#[61]⟩ : ByteArray) y175).bind fun t179 => (if x4_1.length < 4398046511104 then (r03_Parse.l0 k1 (x4_1 ++ [(⟨rdOf ByteArray.empty t171 0, t179⟩ : S98)]) t163 (wrap64 (x6_1 + 1))) else (none))) = some (r1, r2) := by first | (rw [hy175]; with_reducible exact H) | (have H2_ := (Option.bind_some _ _).symm.trans H; rw [hy175]; with_reducible exact H2_) | (have H2_ := (Option.bind_some _ _).symm.trans H; with_reducible exact H2_) | with_reducible exact H | (rw [hy175]; exact H) | exact H
      have Ny175 := Aside0.mk hy175
      clear hy175
      obtain ⟨t179, A14, H⟩ := bs H
      try dsimp only at H
      obtain ⟨c15, H⟩ := gd H
      have LMc15 := Aside0.mk c15
      clear c15
      obtain ⟨y180, hy180⟩ : ∃ y_ : List (S98), y_ = (x4_1 ++ [(⟨rdOf ByteArray.empty t171 0, t179⟩ : S98)]) := ⟨_, rfl⟩
      replace H : (r03_Parse.l0 k1 y180 t163 (wrap64 (x6_1 + 1))) = some (r1, r2) := by first | (rw [hy180]; with_reducible exact H) | (have H2_ := (Option.bind_some _ _).symm.trans H; rw [hy180]; with_reducible exact H2_) | (have H2_ := (Option.bind_some _ _).symm.trans H; with_reducible exact H2_) | with_reducible exact H | (rw [hy180]; exact H) | exact H
      have Ny180 := Aside0.mk hy180
      clear hy180
      have H' := Aside0.mk H
      clear H
      obtain ⟨Ao16, co16, eo16⟩ := Kd.R_slice HO_5.out
      subst eo16
      have p170 : 0 ≤ (x6_1 : Int) := od
      have q170 : x6_1 < (t163.length : Int) := od
      obtain ⟨ad170, e170, hx170_0⟩ := Kd.at_string (Kd.R_reads' HO_5.out).2.2 x6_1 p170 q170
      cases e170
      replace p170 := eq_true p170
      replace q170 := eq_true q170
      try go_wp2_with (first | (refine gL (some 22) rfl Tryz.func41 #[.string (rdOf ByteArray.empty t163 x6_1), .int .u8 61] ?_; (with_reducible refine (r02_Split.calls k1 (rdOf ByteArray.empty t163 x6_1) 61 t171 _ A7.out).mono ?_); rintro e w17 ⟨v172, rfl, ho0, hb⟩; refine ⟨_, rfl, ?_⟩; replace HO_4 := cR HO_4 hb; have HO173 := Aside0.mk (Kd.R_lower (Kd.R_new' ho0 (Kd.R_lt (uR HO_5.out))) (below_size (uW HB.out))); replace HO_5 := Aside0.mk (Kd.R_elder' (uR HO_5.out) (Kd.R_base ho0) hb); replace HB := cW HB hb; (try clear hb); (try clear ho0); obtain ⟨Ao18, co18, eo18⟩ := Kd.R_slice HO173.out; subst eo18))
      replace HO_4 := Aside0.mk (Kd.R_drew HO_4.out)
      replace HO_5 := Aside0.mk (Kd.R_drew HO_5.out)
      replace HO173 := Aside0.mk (Kd.R_drew HO173.out)
      replace HB := Aside0.mk (below_drew1 HB.out)
      have p174 : 0 ≤ (0 : Int) := (by omega)
      have q174 : 0 < (t171.length : Int) := od
      obtain ⟨ad174, e174, hx174_0⟩ := Kd.at_string (Kd.R_reads' HO173.out).2.2 0 p174 q174
      cases e174
      have qi174 : (0 < t171.length) = True := eq_true (by omega)
      (try rw [show ((0 : Int)).toNat = 0 from rfl] at hx174_0)
      (try rw [Addr.add_zero'] at hx174_0)
      replace p174 := eq_true p174
      replace q174 := eq_true q174
      have q20 : (1 : Int) ≤ ((t171.length : Int) : Int) := od
      obtain ⟨i020, hi020, _, hsz20, _⟩ := info_parts info9
      have hroom20 : t171.length ≤ co18 := (Kd.R_reads' HO173.out).2.1
      have hC20 : Kd.C Kd.string _ (some ad174) t171.length t171 := (Kd.R_reads' HO173.out).2.2
      have hcut20 := cut_from (P := Tryz.prog) 52 9 .i64 Tryz.underlying52 hi020 1 hsz20 (some ad174) t171.length co18 1 (by omega) q20
      have hr20 := Kd.C_drop (m := (1 : Int).toNat) (c := co18) hC20 (by omega) hroom20
      obtain ⟨A20, hA20⟩ : ∃ A1, A1 = (if co18 = (1 : Int).toNat then (some ad174) else ((some ad174) : Option Addr).map (·.add ((1 : Int).toNat * 1))) := ⟨_, rfl⟩
      obtain ⟨c20, hc20⟩ : ∃ c1, c1 = co18 - (1 : Int).toNat := ⟨_, rfl⟩
      have hy20 : y175.length = t171.length - (1 : Int).toNat := (by rw [Ny175.out, List.length_drop] <;> omega)
      rw [show (t171).drop (1 : Int).toNat = y175 from Ny175.out.symm] at hr20
      replace hr20 : Kd.C Kd.string _ A20 y175.length y175 := (by rw [hA20]; exact hr20)
      rw [← hy20, ← hA20, ← hc20] at hcut20
      have HR178 := Aside0.mk hr20
      have HC178 := Aside0.mk (show y175.length ≤ c20 from by rw [hy20, hc20]; exact Nat.sub_le_sub_right hroom20 _)
      clear hr20 hC20 hroom20 hi020 hsz20 hc20
      have KY20 := Aside0.mk hy20
      have KA20 := Aside0.mk hA20
      clear hy20 hA20
      have KL20 := Aside0.mk (show 1 ≤ t171.length from by omega)
      replace q20 := eq_true q20
      refine start_ (n := 11) (S := fun w' => w'.cell? ad174 = some (.string (rdOf ByteArray.empty t171 0))) (ds := [8, 9]) _ (by kernel_rfl) rfl rfl (hx174_0) (fun hHeld => ?_); refine with_tabW r03_Parse.tab11 r03_Parse.bits11 (fun HT_ HW_ => ?_)
      generalize w17.drew = w19 at HO_4 HO_5 HO173 HB HR178 hx174_0 hHeld ⊢
      refine p1 0 (some 26) ?_
      refine p1 1 (some 27) ?_
      refine p1 2 (some 28) ?_
      refine p1 4 (some 30) ?_
      refine p1 5 (some 31) ?_
      refine t1 3 (some 29) rfl rfl hHeld (Or.inl ⟨by rfl, by intro w' s0; go_simp; with_reducible rfl⟩) ?_
      refine o1 6 (some 32) rfl rfl (fun K hK => ?_)
      refine gS Tryz.func35 #[.string (⟨#[61]⟩ : ByteArray), .slice A20 y175.length c20] ?_
      with_reducible refine (r02_Join.calls k1 (⟨#[61]⟩ : ByteArray) _ _ y175 t179 _ ?side1 ?side2 A14.out).mono ?_
      (case side1 => repeat (first | exact (by repeat (first | (with_reducible exact HR178.out) | (with_reducible refine Kd.C_alloc ?_ _) | (with_reducible refine Kd.C_drewN ?_ _) | (with_reducible refine Kd.C_drew ?_) | exact HR178.out)) | (with_reducible refine Kd.C_alloc ?_ _) | (with_reducible refine Kd.C_drewN ?_ _) | (with_reducible refine Kd.C_drew ?_)))
      (case side2 => exact HC178.out)
      rintro e w' ⟨rfl, ⟨nd, rfl⟩⟩
      refine ⟨_, rfl, ?_⟩
      refine hK.out _ _ (hHeld) (fun hHeld => ?_)
      clear hK K
      refine norm_ (a' := ?_) ?_ ?_
      rotate_left
      ·
       show Act.put _ (some 32) _ = _
       simp only [Act.put, List.setIfInBounds_toArray, List.set_cons_zero, List.set_cons_succ, i64_w, i32_w]
       rfl
      refine p1 7 (some 33) ?_
      refine l1_ 8 (some 34) rfl rfl (fun K hK => ?_)
      refine value_ (w1 := ?_) (v := ?_) (by rfl) rfl ?_ ?_
      rotate_left 2
      ·
       go_simp
       constructor
       ·
        rfl
       ·
        rfl
      refine hK.out _ _ ?_
      clear hK K
      refine norm_ (a' := ?_) ?_ ?_
      rotate_left
      ·
       show Act.put _ (some 34) _ = _
       simp only [Act.put, List.setIfInBounds_toArray, List.set_cons_zero, List.set_cons_succ, i64_w, i32_w]
       rfl
      refine l1_ 9 (some 35) rfl rfl (fun K hK => ?_)
      refine Kd.R_append_step k98 (w0 := w) w.heap.size (by rfl) (.tmp 26) (.tmp 34) 78 98 (.agg #[(.string ⟨#[]⟩), (.string ⟨#[]⟩)]) 32 rfl Tryz.underlying78 info98 rfl (by decide) (by omega) u4 x4_1 (⟨rdOf ByteArray.empty t171 0, t179⟩ : S98) [.string (rdOf ByteArray.empty t171 0), .string t179] (fun _ => True) (fun _ => False) rfl rfl ?aP (fun _ hk => hk.elim) ?aF ?aO ?aB ?aS ?aL ?_
      (case aP => exact k98_mkM _ _ _ (⟨rdOf ByteArray.empty t171 0, t179⟩ : S98))
      (case aB => exact (uW HB.out))
      (case aF => exact (fun _ _ => trivial))
      (case aO => exact (uR HO_4.out))
      (case aS => exact (below_size (uW HB.out)))
      (case aL => have := LMc15.out; omega)
      intro v181 w21 ho hb hg hat
      rw [← Ny180.out] at ho
      replace HO_5 := Aside0.mk (Kd.R_over' (uR HO_5.out) (Kd.R_typed (uR HO_4.out)) (by decide) hg)
      replace HB := Aside0.mk (hb)
      replace HR178 := Aside0.mk ((show Kd.C Kd.string w21 A20 y175.length y175 from by rw [Ny175.out, KA20.out]; exact Kd.C_drop (m := 1) (c := co18) ((Kd.R_reads' (Kd.R_over' (uR HO173.out) (Kd.R_typed (uR HO_4.out)) (by decide) hg)).2.2) KL20.out ((Kd.R_reads' (Kd.R_over' (uR HO173.out) (Kd.R_typed (uR HO_4.out)) (by decide) hg)).2.1)))
      replace HO173 := Aside0.mk (Kd.R_over' (uR HO173.out) (Kd.R_typed (uR HO_4.out)) (by decide) hg)
      have HO182 := Aside0.mk (ho)
      clear HO_4
      clear ho hb hg hat
      refine hK.out _ _ ?_
      clear hK K
      refine norm_ (a' := ?_) ?_ ?_
      rotate_left
      ·
       show Act.put _ (some 35) _ = _
       simp only [Act.put, List.setIfInBounds_toArray, List.set_cons_zero, List.set_cons_succ, i64_w, i32_w]
       rfl
      refine p1 10 (some 4) ?_
      refine done_ (done_of HT_.out (by kernel_rfl)) ?_
      try go_wp2
      go_roundg k1
      case measure => have := HK1.out; omega
      case rel => exact ⟨(y180), (wrap64 (x6_1 + 1)), rs_, H', ⟨by have := HK1.out; omega⟩, ⟨uR HO182.out⟩, ⟨by exact uR <| Kd.R_mono HO_5.out (fun _ hk => trivial)⟩, ⟨uW HB.out⟩⟩
    ·
     rw [if_neg c5] at H
     have c5b0 : decide (x6_1 < (t163.length : Int)) = false := decide_eq_false c5
     clear c5
     obtain ⟨⟨t166, t167⟩, A22, H⟩ := bs H
     try dsimp only at H
     simp only [Option.some.injEq, Prod.mk.injEq] at H
     obtain ⟨rfl, rfl⟩ := H
     obtain ⟨Ao23, co23, eo23⟩ := Kd.R_slice HO_5.out
     subst eo23
     obtain ⟨Ao24, co24, eo24⟩ := Kd.R_slice HO_4.out
     subst eo24
     go_wp2_with (first | (refine gL (some 37) rfl Tryz.func78 #[.slice Ao24 x4_1.length co24] ?_; (with_reducible refine (r03_Canon.calls k1 _ _ x4_1 t166 t167 _ ?side1 ?side2 A22.out).mono ?_); (case side1 => exact uC <| (Kd.R_reads' HO_4.out).2.2); (case side2 => exact (Kd.R_reads' HO_4.out).2.1); rintro e w25 ⟨v168, rfl, ho0, hb⟩; refine ⟨_, rfl, ?_⟩; replace HO_5 := cR HO_5 hb; have HO169 := Aside0.mk (Kd.R_lower (Kd.R_new' ho0 (Kd.R_lt (uR HO_4.out))) (below_size (uW HB.out))); replace HO_4 := Aside0.mk (Kd.R_elder' (uR HO_4.out) (Kd.R_base ho0) hb); replace HB := cW HB hb; (try clear hb); (try clear ho0)))
     go_ret2
     exact ⟨_, re_, by exact uR <| Kd.R_mono HO169.out (fun _ hk => trivial), uW HB.out⟩
def r03_Text.l0 : Nat → List (S98) → List ByteArray → Int → Option (ByteArray)
 | 0, _, _, _ => none
 | k + 1, x0, x3, x4 => if x4 < (x0.length : Int) then (if 0 ≤ x4 then (if ((rd_T98 x0 x4).f0).size + 1 ≤ 9223372036854775807 then (if (((rd_T98 x0 x4).f0) ++ (⟨#[61]⟩ : ByteArray)).size + ((rd_T98 x0 x4).f1).size ≤ 9223372036854775807 then (if x3.length < 8796093022208 then (r03_Text.l0 k x0 (x3 ++ [(((rd_T98 x0 x4).f0) ++ (⟨#[61]⟩ : ByteArray)) ++ ((rd_T98 x0 x4).f1)]) (wrap64 (x4 + 1))) else (none)) else (none)) else (none)) else (none)) else ((r02_Join.f k (⟨#[44]⟩ : ByteArray) x3).bind fun t188 => (some t188))
def r03_Text.f (k : Nat) (l0 : List (S98)) : Option (ByteArray) := r03_Text.l0 k l0 ([] : List ByteArray) 0
theorem r03_Text.mono_l : ∀ k, (∀ y0 y1 y2, LeC (r03_Text.l0 k y0 y1 y2) (r03_Text.l0 (k + 1) y0 y1 y2))
 | 0 => fun _ _ _ => ⟨fun r h => by simp [r03_Text.l0] at h⟩
 | k + 1 => by have ih0 := r03_Text.mono_l k; exact fun _ _ _ => by unfold r03_Text.l0; exact lm
theorem r03_Text.mono : ∀ a0 k, LeO (r03_Text.f k a0) (r03_Text.f (k + 1) a0) := by
 intro a0 k
 have ih0 := r03_Text.mono_l k
 unfold r03_Text.f
 exact lo
instance r03_Text.mI {a0 k} : LeC (r03_Text.f k a0) (r03_Text.f (k + 1) a0) := ⟨r03_Text.mono _ _⟩
def r03_Text.T5 : Bool × List (List Nat × List Nat) := (true, [([], []), ([], []), ([], []), ([1, 2], [1, 2]), ([3], [3]), ([4], [4]), ([5], [5]), ([], []), ([], []), ([7, 8], [7, 8]), ([9], [9]), ([10], [10]), ([6, 11], [6, 11]), ([12], [12]), ([0, 13], [0, 13]), ([14, 14, 0, 1, 2, 3, 4, 5, 6, 7, 8, 9, 10, 11, 12, 13, 14], [0, 14])])
def r03_Text.B5 : List Nat := [0, 0, 0, 6, 14, 30, 62, 0, 0, 384, 896, 1920, 4094, 8190, 16383, 32767]
theorem r03_Text.tab5 : rtab .any (opsOf Tryz.f62 5) = r03_Text.T5 := by kernel_rfl
theorem r03_Text.bits5 : waitsOk r03_Text.T5.2 r03_Text.B5 = true := by kernel_rfl
theorem r03_Text.calls (k : Nat) (A0 : Option Addr) (c0 : Nat) (l0 : List (S98)) (r : ByteArray) (w : World) (hr0 : Kd.C k98 w A0 l0.length l0) (hc0 : l0.length ≤ c0) (h : r03_Text.f k l0 = some r) :
 Calls Tryz.prog 62 #[.slice A0 l0.length c0] w fun e w' => e = .returned (.string r) ∧ Below w.heap.size w w' := by
 have HR0 := Aside0.mk hr0
 have HC0 := Aside0.mk hc0
 clear hr0 hc0
 have HB := Aside0.mk (Below.refl w.heap.size w)
 have H : (r03_Text.l0 k l0 ([] : List ByteArray) 0) = some r := h
 clear h
 have H' := Aside0.mk H
 clear H
 go_enter Tryz.func62, Tryz.ntmps62
 go_wp2
 go_loopg [3, 4] k (fun kq v3 v4 w' => ∃ (x3_1 : List ByteArray) (x4_1 : Int), v4 = .int .i64 x4_1 ∧ Aside0 (r03_Text.l0 kq l0 x3_1 x4_1 = some r) ∧ Aside0 (kq ≤ k) ∧ Aside0 (Kd.R Kd.string 9 w' w.heap.size (fun _ => True) v3 x3_1) ∧ Aside0 (Below w.heap.size w w'))
 case atStart => exact ⟨(([] : List ByteArray)), (0), rs_, H', ⟨Nat.le_refl _⟩, ⟨nl_⟩, ⟨uW HB.out⟩⟩
 case round =>
  clear H'
  obtain ⟨x3_1, x4_1, rfl, HA, HK1, HO_3, HB⟩ := hrel
  cases gk with
  | zero => exact absurd HA.out (by simp [r03_Text.l0])
  | succ k1 =>
   have H := HA.out
   clear HA
   simp only [r03_Text.l0] at H
   by_cases c2 : x4_1 < (l0.length : Int)
   ·
    rw [if_pos c2] at H
    have c2b0 : decide (x4_1 < (l0.length : Int)) = true := decide_eq_true c2
    clear c2
    obtain ⟨c3b0, H⟩ := gdd H
    obtain ⟨c4, H⟩ := gd H
    have c4b0 := eq_true c4
    have c4b1 : decide (((rd_T98 l0 x4_1).f0).size + 1 ≤ 9223372036854775807) = true := decide_eq_true c4
    try have c4b2 : (9223372036854775807 < ((rd_T98 l0 x4_1).f0).size + 1) = False := eq_false (Nat.not_lt.2 c4)
    obtain ⟨c5, H⟩ := gd H
    have c5b0 := eq_true c5
    have c5b1 : decide ((((rd_T98 l0 x4_1).f0) ++ (⟨#[61]⟩ : ByteArray)).size + ((rd_T98 l0 x4_1).f1).size ≤ 9223372036854775807) = true := decide_eq_true c5
    try have c5b2 : (9223372036854775807 < (((rd_T98 l0 x4_1).f0) ++ (⟨#[61]⟩ : ByteArray)).size + ((rd_T98 l0 x4_1).f1).size) = False := eq_false (Nat.not_lt.2 c5)
    try have c5b8 := c5b2
    try simp only [ByteArray.size_append] at c5b8
    try have c5b9 := c5b2
    try simp only [ByteArray.size_append, show (⟨#[61]⟩ : ByteArray).size = 1 from rfl] at c5b9
    obtain ⟨c6, H⟩ := gd H
    have LMc6 := Aside0.mk c6
    clear c6
    obtain ⟨y185, hy185⟩ : ∃ y_ : List ByteArray, y_ = (x3_1 ++ [(((rd_T98 l0 x4_1).f0) ++ (⟨#[61]⟩ : ByteArray)) ++ ((rd_T98 l0 x4_1).f1)]) := ⟨_, rfl⟩
    replace H : (r03_Text.l0 k1 l0 y185 (wrap64 (x4_1 + 1))) = some r := by first | (rw [hy185]; with_reducible exact H) | (have H2_ := (Option.bind_some _ _).symm.trans H; rw [hy185]; with_reducible exact H2_) | (have H2_ := (Option.bind_some _ _).symm.trans H; with_reducible exact H2_) | with_reducible exact H | (rw [hy185]; exact H) | exact H
    have Ny185 := Aside0.mk hy185
    clear hy185
    have H' := Aside0.mk H
    clear H
    try go_wp2
    replace HO_3 := Aside0.mk (Kd.R_drew HO_3.out)
    replace HB := Aside0.mk (below_drew1 HB.out)
    have p183 : 0 ≤ (x4_1 : Int) := od
    have q183 : x4_1 < (l0.length : Int) := od
    obtain ⟨ad183, e183, hx183_0, hx183_1⟩ := at_T98 HR0.out x4_1 p183 q183
    have hw183_1 := hx183_1
    have hw183_0 := hx183_0
    cases e183
    replace hx183_0 := kc HB hx183_0
    replace hx183_1 := kc HB hx183_1
    replace p183 := eq_true p183
    replace q183 := eq_true q183
    have p184 : 0 ≤ (x4_1 : Int) := od
    have q184 : x4_1 < (l0.length : Int) := od
    obtain ⟨ad184, e184, hx184_0, hx184_1⟩ := at_T98 HR0.out x4_1 p184 q184
    have hw184_1 := hx184_1
    have hw184_0 := hx184_0
    obtain rfl : ad183 = ad184 := (by injection e184)
    replace hx184_0 := kc HB hx184_0
    replace hx184_1 := kc HB hx184_1
    replace p184 := eq_true p184
    replace q184 := eq_true q184
    refine start_ (n := 16) (S := fun w' => w'.cell? (ad183.add ((x4_1).toNat * 2)) = some (.string ((rd_T98 l0 x4_1).f0)) ∧ w'.cell? ⟨(ad183.add ((x4_1).toNat * 2)).block, (ad183.add ((x4_1).toNat * 2)).off + 1, none⟩ = some (.string ((rd_T98 l0 x4_1).f1)) ∧ w'.cell? (ad183.add ((x4_1).toNat * 2)) = some (.string ((rd_T98 l0 x4_1).f0)) ∧ w'.cell? ⟨(ad183.add ((x4_1).toNat * 2)).block, (ad183.add ((x4_1).toNat * 2)).off + 1, none⟩ = some (.string ((rd_T98 l0 x4_1).f1))) (ds := []) _ (by kernel_rfl) rfl rfl ⟨(kc HB hw183_0), (kc HB hw183_1), (kc HB hw184_0), (kc HB hw184_1)⟩ (fun hHeld => ?_); refine with_tabW r03_Text.tab5 r03_Text.bits5 (fun HT_ HW_ => ?_)
    generalize wr.drew = w7 at HO_3 HB hx183_0 hx183_1 hx184_0 hx184_1 hHeld ⊢
    refine p1 0 (some 11) ?_
    refine p1 1 (some 12) ?_
    refine p1 2 (some 13) ?_
    refine p1 3 (some 14) ?_
    refine p1 4 (some 15) ?_
    refine p1 7 (some 18) ?_
    refine p1 8 (some 19) ?_
    refine p1 9 (some 20) ?_
    refine p1 10 (some 21) ?_
    refine t1 5 (some 16) rfl rfl hHeld (Or.inl ⟨by rfl, by rintro w' ⟨s0, s1, s2, s3⟩; go_simp; with_reducible rfl⟩) ?_
    refine p1 6 (some 17) ?_
    refine t1 11 (some 22) rfl rfl hHeld (Or.inl ⟨by rfl, by rintro w' ⟨s0, s1, s2, s3⟩; go_simp; with_reducible rfl⟩) ?_
    refine p1 12 (some 23) ?_
    refine o1 13 (some 24) rfl rfl (fun K hK => ?_)
    refine value_ (w1 := ?_) (v := ?_) (by rfl) rfl ?_ ?_
    rotate_left 2
    ·
     go_simp
     constructor
     ·
      rfl
     ·
      rfl
    refine hK.out _ _ ⟨(World.cell?_alloc_lt _ _ _ (World.block_lt_of_cell? _ _ ((kc HB hw183_0)))).trans ((kc HB hw183_0)), (World.cell?_alloc_lt _ _ _ (World.block_lt_of_cell? _ _ ((kc HB hw183_1)))).trans ((kc HB hw183_1)), (World.cell?_alloc_lt _ _ _ (World.block_lt_of_cell? _ _ ((kc HB hw184_0)))).trans ((kc HB hw184_0)), (World.cell?_alloc_lt _ _ _ (World.block_lt_of_cell? _ _ ((kc HB hw184_1)))).trans ((kc HB hw184_1))⟩ (fun hHeld => ?_)
    clear hK K
    refine norm_ (a' := ?_) ?_ ?_
    rotate_left
    ·
     show Act.put _ (some 24) _ = _
     simp only [Act.put, List.setIfInBounds_toArray, List.set_cons_zero, List.set_cons_succ, i64_w, i32_w]
     rfl
    refine o1 14 (some 25) rfl rfl (fun K hK => ?_)
    refine Kd.R_append_step Kd.string (w0 := w) w.heap.size (by rfl) (.tmp 11) (.tmp 24) 52 9 (.string ⟨#[]⟩) 16 rfl Tryz.underlying52 info9 rfl (by decide) (by omega) u3 x3_1 ((((rd_T98 l0 x4_1).f0) ++ (⟨#[61]⟩ : ByteArray)) ++ ((rd_T98 l0 x4_1).f1)) [.string ((((rd_T98 l0 x4_1).f0) ++ (⟨#[61]⟩ : ByteArray)) ++ ((rd_T98 l0 x4_1).f1))] (fun _ => True) (fun _ => False) rfl rfl ?aP (fun _ hk => hk.elim) ?aF ?aO ?aB ?aS ?aL ?_
    (case aP => exact rfl)
    (case aB => exact (uW HB.out))
    (case aF => exact (fun _ _ => trivial))
    (case aO => exact (uR HO_3.out))
    (case aS => exact (below_size (uW HB.out)))
    (case aL => have := LMc6.out; omega)
    intro v186 w8 ho hb hg hat
    rw [← Ny185.out] at ho
    replace HB := Aside0.mk (hb)
    have HO187 := Aside0.mk (ho)
    clear HO_3
    clear ho hb hg hat
    refine hK.out _ _ ⟨(kc HB hw183_0), (kc HB hw183_1), (kc HB hw184_0), (kc HB hw184_1)⟩ (fun hHeld => ?_)
    clear hK K
    refine norm_ (a' := ?_) ?_ ?_
    rotate_left
    ·
     show Act.put _ (some 25) _ = _
     simp only [Act.put, List.setIfInBounds_toArray, List.set_cons_zero, List.set_cons_succ, i64_w, i32_w]
     rfl
    refine p1 15 (some 3) ?_
    refine done_ (done_of HT_.out (by kernel_rfl)) ?_
    try go_wp2
    go_roundg k1
    case measure => have := HK1.out; omega
    case rel => exact ⟨(y185), (wrap64 (x4_1 + 1)), rs_, H', ⟨by have := HK1.out; omega⟩, ⟨uR HO187.out⟩, ⟨uW HB.out⟩⟩
   ·
    rw [if_neg c2] at H
    have c2b0 : decide (x4_1 < (l0.length : Int)) = false := decide_eq_false c2
    clear c2
    obtain ⟨t188, A9, H⟩ := bs H
    try dsimp only at H
    obtain rfl := Option.some.inj H
    obtain ⟨Ao10, co10, eo10⟩ := Kd.R_slice HO_3.out
    subst eo10
    go_wp2_with (first | (refine gL (some 27) rfl Tryz.func35 #[.string (⟨#[44]⟩ : ByteArray), .slice Ao10 x3_1.length co10] ?_; (with_reducible refine (r02_Join.calls k1 (⟨#[44]⟩ : ByteArray) _ _ x3_1 t188 _ ?side1 ?side2 A9.out).mono ?_); (case side1 => exact uC <| (Kd.R_reads' HO_3.out).2.2); (case side2 => exact (Kd.R_reads' HO_3.out).2.1); rintro e w' ⟨rfl, ⟨nd, rfl⟩⟩; refine ⟨_, rfl, ?_⟩))
    go_ret
    exact ⟨re_, uW HB.out⟩
def r08_group.f (k : Nat) (a0 : ByteArray) : Option (Int) := (r03_Parse.f k a0).bind fun bt189 => (if bt189.2 = 0 then ((r03_Text.f k bt189.1).bind fun t193 => (if t193.toList = a0.toList then (some 0) else (some 2))) else (some bt189.2))
theorem r08_group.mono : ∀ a0 k, LeO (r08_group.f k a0) (r08_group.f (k + 1) a0) := by
 intro a0 k
 unfold r08_group.f
 exact lo
instance r08_group.mI {a0 k} : LeC (r08_group.f k a0) (r08_group.f (k + 1) a0) := ⟨r08_group.mono _ _⟩
theorem r08_group.calls (k : Nat) (a0 : ByteArray) (r : Int) (w : World) (h : r08_group.f k a0 = some r) :
 Calls Tryz.prog 51 #[.string a0] w fun e w' => e = .returned (.int .i64 r) ∧ Below w.heap.size w w' := by
 have HB := Aside0.mk (Below.refl w.heap.size w)
 have H : ((r03_Parse.f k a0).bind fun bt189 => (if bt189.2 = 0 then ((r03_Text.f k bt189.1).bind fun t193 => (if t193.toList = a0.toList then (some 0) else (some 2))) else (some bt189.2))) = some r := h
 clear h
 obtain ⟨⟨t189, t190⟩, A2, H⟩ := bs H
 try dsimp only at H
 by_cases c3 : t190 = 0
 ·
  rw [if_pos c3] at H
  have c3b0 : (t190 == 0) = true := beq_iff_eq.mpr c3
  have c3b1 : (t190 != 0) = false := bne_eq_false_iff_eq.mpr c3
  clear c3
  obtain ⟨t193, A4, H⟩ := bs H
  try dsimp only at H
  by_cases c5 : t193.toList = a0.toList
  ·
   rw [if_pos c5] at H
   have c5b0 : (t193.toList == a0.toList) = true := beq_iff_eq.mpr c5
   have c5b1 : (t193.toList != a0.toList) = false := bne_eq_false_iff_eq.mpr c5
   clear c5
   obtain rfl := Option.some.inj H
   go_enter Tryz.func51, Tryz.ntmps51
   go_wp2_with (first | (refine gL (some 7) rfl Tryz.func61 #[.string a0] ?_; (with_reducible refine (r03_Parse.calls k a0 t189 t190 _ A2.out).mono ?_); rintro e w6 ⟨v191, rfl, ho0, hb⟩; refine ⟨_, rfl, ?_⟩; have HO192 := Aside0.mk (Kd.R_lower ho0 (below_size (uW HB.out))); replace HB := cW HB hb; (try clear hb); (try clear ho0); obtain ⟨Ao7, co7, eo7⟩ := Kd.R_slice HO192.out; subst eo7) | (refine gL (some 14) rfl Tryz.func62 #[.slice Ao7 t189.length co7] ?_; (with_reducible refine (r03_Text.calls k _ _ t189 t193 _ ?side1 ?side2 A4.out).mono ?_); (case side1 => exact uC <| (Kd.R_reads' HO192.out).2.2); (case side2 => exact (Kd.R_reads' HO192.out).2.1); rintro e w8 ⟨rfl, hb⟩; refine ⟨_, rfl, ?_⟩; replace HO192 := cR HO192 hb; replace HB := cW HB hb; (try clear hb)))
   go_ret
   exact ⟨re_, uW HB.out⟩
  ·
   rw [if_neg c5] at H
   have c5b0 : (t193.toList == a0.toList) = false := beq_eq_false_iff_ne.mpr c5
   have c5b1 : (t193.toList != a0.toList) = true := bne_iff_ne.mpr c5
   obtain rfl := Option.some.inj H
   go_enter Tryz.func51, Tryz.ntmps51
   go_wp2_with (first | (refine gL (some 7) rfl Tryz.func61 #[.string a0] ?_; (with_reducible refine (r03_Parse.calls k a0 t189 t190 _ A2.out).mono ?_); rintro e w9 ⟨v191, rfl, ho0, hb⟩; refine ⟨_, rfl, ?_⟩; have HO192 := Aside0.mk (Kd.R_lower ho0 (below_size (uW HB.out))); replace HB := cW HB hb; (try clear hb); (try clear ho0); obtain ⟨Ao10, co10, eo10⟩ := Kd.R_slice HO192.out; subst eo10) | (refine gL (some 14) rfl Tryz.func62 #[.slice Ao10 t189.length co10] ?_; (with_reducible refine (r03_Text.calls k _ _ t189 t193 _ ?side1 ?side2 A4.out).mono ?_); (case side1 => exact uC <| (Kd.R_reads' HO192.out).2.2); (case side2 => exact (Kd.R_reads' HO192.out).2.1); rintro e w11 ⟨rfl, hb⟩; refine ⟨_, rfl, ?_⟩; replace HO192 := cR HO192 hb; replace HB := cW HB hb; (try clear hb)))
   go_ret
   exact ⟨re_, uW HB.out⟩
 ·
  rw [if_neg c3] at H
  have c3b0 : (t190 == 0) = false := beq_eq_false_iff_ne.mpr c3
  have c3b1 : (t190 != 0) = true := bne_iff_ne.mpr c3
  obtain rfl := Option.some.inj H
  go_enter Tryz.func51, Tryz.ntmps51
  go_wp2_with (first | (refine gL (some 7) rfl Tryz.func61 #[.string a0] ?_; (with_reducible refine (r03_Parse.calls k a0 t189 t190 _ A2.out).mono ?_); rintro e w12 ⟨v191, rfl, ho0, hb⟩; refine ⟨_, rfl, ?_⟩; have HO192 := Aside0.mk (Kd.R_lower ho0 (below_size (uW HB.out))); replace HB := cW HB hb; (try clear hb); (try clear ho0)))
  go_ret
  exact ⟨re_, uW HB.out⟩
theorem r01_Read.wtd {a : Int} (h0 : -9223372036854775808 ≤ a) (h1 : a ≤ 9223372036854775807) : wrap64 (Int.tdiv a 10) = Int.tdiv a 10 := by
 have e : Int.tdiv a 10 = if 0 ≤ a then a / 10 else -((-a) / 10) := by
  split
  ·
   rename_i h; exact Int.tdiv_eq_ediv_of_nonneg h
  ·
   rename_i h
   have h2 : Int.tdiv a 10 = -(Int.tdiv (-a) 10) := by rw [Int.neg_tdiv, Int.neg_neg]
   rw [h2, Int.tdiv_eq_ediv_of_nonneg (by omega)]
 rw [e]
 unfold wrap64
 split <;> omega
mutual
def r01_Read.j0 : Nat → ByteArray → ByteArray → Bool → Option (Int × Int)
 | 0, _, _, _ => none
 | k + 1, x0, x4, x17 => if x17 = true then (if 1 ≤ (x4.size : Int) then (r01_Read.j1 k x0 (x4.extract 1 x4.size)) else (none)) else (r01_Read.j1 k x0 x4)
def r01_Read.j1 : Nat → ByteArray → ByteArray → Option (Int × Int)
 | 0, _, _ => none
 | k + 1, x0, x4 => if (x4.size : Int) = 0 then (r01_Read.j2 k x0 x4 true) else (if 0 < (x4.size : Int) then (if (bt x4 0) = 48 then (r01_Read.j2 k x0 x4 (decide ((x0.size : Int) > 1))) else (r01_Read.j2 k x0 x4 false)) else (none))
def r01_Read.j2 : Nat → ByteArray → ByteArray → Bool → Option (Int × Int)
 | 0, _, _, _ => none
 | k + 1, x0, x4, x32 => if x32 = true then (some (0, 2)) else (r01_Read.l0 k x0 x4 0)
def r01_Read.l0 : Nat → ByteArray → ByteArray → Int → Option (Int × Int)
 | 0, _, _, _ => none
 | k + 1, x0, x4, x5 => if x5 < (x4.size : Int) then (if 0 ≤ x5 then (if (bt x4 x5) < 48 then (some (0, 2)) else (if (bt x4 x5) > 57 then (some (0, 2)) else (r01_Read.l0 k x0 x4 (wrap64 (x5 + 1))))) else (none)) else (r01_Read.l1 k x0 x4 0 0)
def r01_Read.l1 : Nat → ByteArray → ByteArray → Int → Int → Option (Int × Int)
 | 0, _, _, _, _ => none
 | k + 1, x0, x4, x6, x7 => if x7 < (x4.size : Int) then (if 0 ≤ x7 then (if x6 < (wrap64 (Int.tdiv ((-9223372036854775808) + (((bt x4 x7) - 48) % 256)) 10)) then (some (0, 3)) else (r01_Read.l1 k x0 x4 (wrap64 ((wrap64 (10 * x6)) - (((bt x4 x7) - 48) % 256))) (wrap64 (x7 + 1)))) else (none)) else (if (x4.size : Int) < (x0.size : Int) then (some (x6, 0)) else (if x6 = (-9223372036854775808) then (some (0, 3)) else (some (wrap64 (-x6), 0))))
end
def r01_Read.f (k : Nat) (a0 : ByteArray) : Option (Int × Int) := if (a0.size : Int) > 1 then (if 0 < (a0.size : Int) then (r01_Read.j0 k a0 a0 ((bt a0 0) == 45)) else (none)) else (r01_Read.j0 k a0 a0 false)
theorem r01_Read.mono_l : ∀ k, (∀ y0 y1 y2, LeC (r01_Read.j0 k y0 y1 y2) (r01_Read.j0 (k + 1) y0 y1 y2)) ∧ (∀ y0 y1, LeC (r01_Read.j1 k y0 y1) (r01_Read.j1 (k + 1) y0 y1)) ∧ (∀ y0 y1 y2, LeC (r01_Read.j2 k y0 y1 y2) (r01_Read.j2 (k + 1) y0 y1 y2)) ∧ (∀ y0 y1 y2, LeC (r01_Read.l0 k y0 y1 y2) (r01_Read.l0 (k + 1) y0 y1 y2)) ∧ (∀ y0 y1 y2 y3, LeC (r01_Read.l1 k y0 y1 y2 y3) (r01_Read.l1 (k + 1) y0 y1 y2 y3))
 | 0 => ⟨fun _ _ _ => ⟨fun r h => by simp [r01_Read.j0] at h⟩, fun _ _ => ⟨fun r h => by simp [r01_Read.j1] at h⟩, fun _ _ _ => ⟨fun r h => by simp [r01_Read.j2] at h⟩, fun _ _ _ => ⟨fun r h => by simp [r01_Read.l0] at h⟩, fun _ _ _ _ => ⟨fun r h => by simp [r01_Read.l1] at h⟩⟩
 | k + 1 => by obtain ⟨ih0, ih1, ih2, ih3, ih4⟩ := r01_Read.mono_l k; exact ⟨fun _ _ _ => by unfold r01_Read.j0; exact lm, fun _ _ => by unfold r01_Read.j1; exact lm, fun _ _ _ => by unfold r01_Read.j2; exact lm, fun _ _ _ => by unfold r01_Read.l0; exact lm, fun _ _ _ _ => by unfold r01_Read.l1; exact lm⟩
theorem r01_Read.mono : ∀ a0 k, LeO (r01_Read.f k a0) (r01_Read.f (k + 1) a0) := by
 intro a0 k
 obtain ⟨ih0, ih1, ih2, ih3, ih4⟩ := r01_Read.mono_l k
 unfold r01_Read.f
 exact lo
instance r01_Read.mI {a0 k} : LeC (r01_Read.f k a0) (r01_Read.f (k + 1) a0) := ⟨r01_Read.mono _ _⟩
theorem r01_Read.calls (k : Nat) (a0 : ByteArray) (r1 : Int) (r2 : Int) (w : World) (h : r01_Read.f k a0 = some (r1, r2)) :
 Calls Tryz.prog 60 #[.string a0] w fun e w' => e = .returned (.tuple #[.int .i64 r1, .int .i64 r2]) ∧ Drawn0 w w' := by
 have H : (if (a0.size : Int) > 1 then (if 0 < (a0.size : Int) then (r01_Read.j0 k a0 a0 ((bt a0 0) == 45)) else (none)) else (r01_Read.j0 k a0 a0 false)) = some (r1, r2) := h
 clear h
 have HC2 := Aside0.mk H
 clear H
 go_enter Tryz.func60, Tryz.ntmps60
 go_upto_region 2 with (fail)
 go_cut [17] (fun v17 wc => ∃ (kq : Nat) (x17_1 : Bool), v17 = .bool x17_1 ∧ Aside0 (r01_Read.j0 kq a0 a0 x17_1 = some (r1, r2)) ∧ Aside0 (kq ≤ k) ∧ Drawn0 w wc)
 case first =>
  have H := HC2.out
  clear HC2
  by_cases c3 : (a0.size : Int) > 1
  ·
   rw [if_pos c3] at H
   have c3b0 : decide (1 < (a0.size : Int)) = true := decide_eq_true c3
   have c3b1 : decide (1 < a0.size) = true := decide_eq_true (by omega)
   clear c3
   (first | rw [c3b0] | (simp only [i64_w, i32_w]; rw [c3b0]) | skip)
   obtain ⟨c4, H⟩ := gd H
   have c4b0 : decide (0 < (a0.size : Int)) = true := decide_eq_true c4
   have c4b1 : decide (0 < a0.size) = true := decide_eq_true (by omega)
   clear c4
   have H' := Aside0.mk H
   clear H
   have p5 : 0 ≤ (0 : Int) := (by omega)
   have q5 : 0 < a0.size := (by have : (0 : Int) < (a0.size : Int) := od; omega)
   have hx5 : ∀ h : 0 < a0.size, ((a0[0]'h).toNat : Int) = bt a0 0 := bt_at a0 0
   clear p5
   have qi5 : (0 < (a0.size : Int)) = True := eq_true (od)
   replace q5 := eq_true q5
   go_wp2
   go_meet
   case rel => exact ⟨_, (((bt a0 0) == 45)), rs_, H', ⟨by first | omega | exact Nat.le_refl _⟩, dr_⟩
  ·
   rw [if_neg c3] at H
   have c3b0 : decide (1 < (a0.size : Int)) = false := decide_eq_false c3
   have c3b1 : decide (1 < a0.size) = false := decide_eq_false (by omega)
   clear c3
   (first | rw [c3b0] | (simp only [i64_w, i32_w]; rw [c3b0]) | skip)
   have H' := Aside0.mk H
   clear H
   go_wp2
   go_meet
   case rel => exact ⟨_, (false), rs_, H', ⟨by first | omega | exact Nat.le_refl _⟩, dr_⟩
 case rest =>
  clear HC2
  try clear p2
  try clear c3
  try clear c3b0
  try clear c3b1
  try clear c4
  try clear c4b0
  try clear c4b1
  try clear p5
  try clear q5
  try clear hx5
  try clear qi5
  try clear p5
  try clear q5
  obtain ⟨kq, x17_1, rfl, HA, HJ1, ⟨mc1, rfl⟩⟩ := hcut
  cases kq with
  | zero => exact absurd HA.out (by simp [r01_Read.j0])
  | succ kj1 =>
   have H := HA.out
   clear HA
   simp only [r01_Read.j0] at H
   have HC6 := Aside0.mk H
   clear H
   go_upto_if 17 with (fail)
   go_cut [4] (fun v4 wc => ∃ (kq : Nat) (x4_5 : ByteArray), v4 = .string x4_5 ∧ Aside0 (r01_Read.j1 kq a0 x4_5 = some (r1, r2)) ∧ Aside0 (kq ≤ kj1) ∧ Drawn0 w wc)
   case first =>
    have H := HC6.out
    clear HC6
    by_cases c7 : x17_1 = true
    ·
     subst c7
     rw [if_pos rfl] at H
     obtain ⟨c8, H⟩ := gd H
     have c8b0 := eq_true c8
     have c8b1 : decide (1 ≤ (a0.size : Int)) = true := decide_eq_true c8
     clear c8
     have H' := Aside0.mk H
     clear H
     go_wp2
     go_meet
     case rel => exact ⟨_, (a0.extract 1 a0.size), rs_, H', ⟨by have := HJ1.out; first | omega | exact Nat.le_refl _⟩, dr_⟩
    ·
     replace c7 := Bool.eq_false_iff.mpr c7
     subst c7
     rw [if_neg (show ¬ (false = true) by decide)] at H
     have H' := Aside0.mk H
     clear H
     go_wp2
     go_meet
     case rel => exact ⟨_, (a0), rs_, H', ⟨by have := HJ1.out; first | omega | exact Nat.le_refl _⟩, dr_⟩
   case rest =>
    clear HC6
    try clear c1
    try clear p2
    try clear c3
    try clear c3b0
    try clear c3b1
    try clear c4
    try clear c4b0
    try clear c4b1
    try clear p5
    try clear q5
    try clear hx5
    try clear qi5
    try clear c6
    try clear c7
    try clear c8
    try clear c8b0
    try clear c8b1
    try clear p2
    try clear p5
    try clear q5
    obtain ⟨kq, x4_5, rfl, HA, HJ5, ⟨mc5, rfl⟩⟩ := hcut
    cases kq with
    | zero => exact absurd HA.out (by simp [r01_Read.j1])
    | succ kj5 =>
     have H := HA.out
     clear HA
     simp only [r01_Read.j1] at H
     have HC9 := Aside0.mk H
     clear H
     go_upto_region 4 with (fail)
     go_cut [32] (fun v32 wc => ∃ (kq : Nat) (x32_8 : Bool), v32 = .bool x32_8 ∧ Aside0 (r01_Read.j2 kq a0 x4_5 x32_8 = some (r1, r2)) ∧ Aside0 (kq ≤ kj5) ∧ Drawn0 w wc)
     case first =>
      have H := HC9.out
      clear HC9
      by_cases c10 : (x4_5.size : Int) = 0
      ·
       rw [if_pos c10] at H
       have c10b0 : ((x4_5.size : Int) == 0) = true := beq_iff_eq.mpr c10
       have c10b1 : ((x4_5.size : Int) != 0) = false := bne_eq_false_iff_eq.mpr c10
       clear c10
       (first | rw [c10b0] | (simp only [i64_w, i32_w]; rw [c10b0]) | skip)
       have H' := Aside0.mk H
       clear H
       go_wp2
       go_meet
       case rel => exact ⟨_, (true), rs_, H', ⟨by have := HJ1.out; have := HJ5.out; first | omega | exact Nat.le_refl _⟩, dr_⟩
      ·
       rw [if_neg c10] at H
       have c10b0 : ((x4_5.size : Int) == 0) = false := beq_eq_false_iff_ne.mpr c10
       have c10b1 : ((x4_5.size : Int) != 0) = true := bne_iff_ne.mpr c10
       (first | rw [c10b0] | (simp only [i64_w, i32_w]; rw [c10b0]) | skip)
       obtain ⟨c11, H⟩ := gd H
       have c11b0 : decide (0 < (x4_5.size : Int)) = true := decide_eq_true c11
       have c11b1 : decide (0 < x4_5.size) = true := decide_eq_true (by omega)
       clear c11
       by_cases c13 : (bt x4_5 0) = 48
       ·
        rw [if_pos c13] at H
        have c13b0 : ((bt x4_5 0) == 48) = true := beq_iff_eq.mpr c13
        have c13b1 : ((bt x4_5 0) != 48) = false := bne_eq_false_iff_eq.mpr c13
        clear c13
        have H' := Aside0.mk H
        clear H
        have p12 : 0 ≤ (0 : Int) := (by omega)
        have q12 : 0 < x4_5.size := (by have : (0 : Int) < (x4_5.size : Int) := od; omega)
        have hx12 : ∀ h : 0 < x4_5.size, ((x4_5[0]'h).toNat : Int) = bt x4_5 0 := bt_at x4_5 0
        clear p12
        have qi12 : (0 < (x4_5.size : Int)) = True := eq_true (od)
        replace q12 := eq_true q12
        go_wp2
        go_meet
        case rel => exact ⟨_, (decide ((a0.size : Int) > 1)), rs_, H', ⟨by have := HJ1.out; have := HJ5.out; first | omega | exact Nat.le_refl _⟩, dr_⟩
       ·
        rw [if_neg c13] at H
        have c13b0 : ((bt x4_5 0) == 48) = false := beq_eq_false_iff_ne.mpr c13
        have c13b1 : ((bt x4_5 0) != 48) = true := bne_iff_ne.mpr c13
        have H' := Aside0.mk H
        clear H
        have p12 : 0 ≤ (0 : Int) := (by omega)
        have q12 : 0 < x4_5.size := (by have : (0 : Int) < (x4_5.size : Int) := od; omega)
        have hx12 : ∀ h : 0 < x4_5.size, ((x4_5[0]'h).toNat : Int) = bt x4_5 0 := bt_at x4_5 0
        clear p12
        have qi12 : (0 < (x4_5.size : Int)) = True := eq_true (od)
        replace q12 := eq_true q12
        go_wp2
        go_meet
        case rel => exact ⟨_, (false), rs_, H', ⟨by have := HJ1.out; have := HJ5.out; first | omega | exact Nat.le_refl _⟩, dr_⟩
     case rest =>
      clear HC9
      try clear c1
      try clear p1
      try clear q1
      try clear hx1
      try clear qi1
      try clear p2
      try clear c3
      try clear c3b0
      try clear c3b1
      try clear c4
      try clear c4b0
      try clear c4b1
      try clear c5
      try clear p5
      try clear q5
      try clear hx5
      try clear qi5
      try clear c6
      try clear c7
      try clear c8
      try clear c8b0
      try clear c8b1
      try clear c10
      try clear c10b0
      try clear c10b1
      try clear c11
      try clear c11b0
      try clear c11b1
      try clear p12
      try clear q12
      try clear hx12
      try clear qi12
      try clear c13
      try clear c13b0
      try clear c13b1
      try clear p12
      try clear p2
      try clear p5
      try clear q12
      try clear q5
      obtain ⟨kq, x32_8, rfl, HA, HJ8, ⟨mc8, rfl⟩⟩ := hcut
      cases kq with
      | zero => exact absurd HA.out (by simp [r01_Read.j2])
      | succ kj8 =>
       have H := HA.out
       clear HA
       simp only [r01_Read.j2] at H
       by_cases c14 : x32_8 = true
       ·
        subst c14
        rw [if_pos rfl] at H
        simp only [Option.some.injEq, Prod.mk.injEq] at H
        obtain ⟨rfl, rfl⟩ := H
        go_wp2
        go_ret2
        exact ⟨rs_, dr_⟩
       ·
        replace c14 := Bool.eq_false_iff.mpr c14
        subst c14
        rw [if_neg (show ¬ (false = true) by decide)] at H
        have H' := Aside0.mk H
        clear H
        go_wp2
        go_loopg [5] kj8 (fun kq v5 w' => ∃ (x5_4 : Int), v5 = .int .i64 x5_4 ∧ Aside0 (r01_Read.l0 kq a0 x4_5 x5_4 = some (r1, r2)) ∧ Aside0 (kq ≤ kj8) ∧ Drawn0 w w')
        case atStart => exact ⟨(0), rs_, H', ⟨Nat.le_refl _⟩, dr_⟩
        case round =>
         clear H'
         try clear c1
         try clear p1
         try clear q1
         try clear hx1
         try clear qi1
         try clear p2
         try clear c3
         try clear c3b0
         try clear c3b1
         try clear c4
         try clear c4b0
         try clear c4b1
         try clear c5
         try clear p5
         try clear q5
         try clear hx5
         try clear qi5
         try clear c6
         try clear c7
         try clear c8
         try clear c8b0
         try clear c8b1
         try clear c10
         try clear c10b0
         try clear c10b1
         try clear c11
         try clear c11b0
         try clear c11b1
         try clear p12
         try clear q12
         try clear hx12
         try clear qi12
         try clear c13
         try clear c13b0
         try clear c13b1
         try clear c14
         try clear p1
         try clear p12
         try clear p2
         try clear p5
         try clear q1
         try clear q12
         try clear q5
         obtain ⟨x5_4, rfl, HA, HK4, ⟨m4, rfl⟩⟩ := hrel
         cases gk with
         | zero => exact absurd HA.out (by simp [r01_Read.l0])
         | succ k4 =>
          have H := HA.out
          clear HA
          simp only [r01_Read.l0] at H
          by_cases c15 : x5_4 < (x4_5.size : Int)
          ·
           rw [if_pos c15] at H
           have c15b0 : decide (x5_4 < (x4_5.size : Int)) = true := decide_eq_true c15
           clear c15
           obtain ⟨c16b0, H⟩ := gdd H
           by_cases c18 : (bt x4_5 x5_4) < 48
           ·
            rw [if_pos c18] at H
            have c18b0 : decide ((bt x4_5 x5_4) < 48) = true := decide_eq_true c18
            clear c18
            simp only [Option.some.injEq, Prod.mk.injEq] at H
            obtain ⟨rfl, rfl⟩ := H
            have p17 : 0 ≤ (x5_4 : Int) := od
            have q17 : x5_4 < (x4_5.size : Int) := od
            have hx17 := bt_at x4_5 x5_4
            replace p17 := eq_true p17
            replace q17 := eq_true q17
            go_wp2
            go_ret2
            exact ⟨rs_, dr_⟩
           ·
            rw [if_neg c18] at H
            have c18b0 : decide ((bt x4_5 x5_4) < 48) = false := decide_eq_false c18
            clear c18
            by_cases c20 : (bt x4_5 x5_4) > 57
            ·
             rw [if_pos c20] at H
             have c20b0 : decide (57 < (bt x4_5 x5_4)) = true := decide_eq_true c20
             clear c20
             simp only [Option.some.injEq, Prod.mk.injEq] at H
             obtain ⟨rfl, rfl⟩ := H
             have p17 : 0 ≤ (x5_4 : Int) := od
             have q17 : x5_4 < (x4_5.size : Int) := od
             have hx17 := bt_at x4_5 x5_4
             replace p17 := eq_true p17
             replace q17 := eq_true q17
             have p19 : 0 ≤ (x5_4 : Int) := od
             have q19 : x5_4 < (x4_5.size : Int) := od
             have hx19 := bt_at x4_5 x5_4
             replace p19 := eq_true p19
             replace q19 := eq_true q19
             go_wp2
             go_ret2
             exact ⟨rs_, dr_⟩
            ·
             rw [if_neg c20] at H
             have c20b0 : decide (57 < (bt x4_5 x5_4)) = false := decide_eq_false c20
             clear c20
             have H' := Aside0.mk H
             clear H
             have p17 : 0 ≤ (x5_4 : Int) := od
             have q17 : x5_4 < (x4_5.size : Int) := od
             have hx17 := bt_at x4_5 x5_4
             replace p17 := eq_true p17
             replace q17 := eq_true q17
             have p19 : 0 ≤ (x5_4 : Int) := od
             have q19 : x5_4 < (x4_5.size : Int) := od
             have hx19 := bt_at x4_5 x5_4
             replace p19 := eq_true p19
             replace q19 := eq_true q19
             go_wp2
             go_roundg k4
             case measure => have := HJ1.out; have := HJ5.out; have := HJ8.out; have := HK4.out; omega
             case rel => exact ⟨(wrap64 (x5_4 + 1)), rs_, H', ⟨by have := HJ1.out; have := HJ5.out; have := HJ8.out; have := HK4.out; omega⟩, dr_⟩
          ·
           rw [if_neg c15] at H
           have c15b0 : decide (x5_4 < (x4_5.size : Int)) = false := decide_eq_false c15
           clear c15
           have H' := Aside0.mk H
           clear H
           go_wp2
           go_loopg [6, 7] k4 (fun kq v6 v7 w' => ∃ (x6_5 : Int) (x7_5 : Int), v6 = .int .i64 x6_5 ∧ v7 = .int .i64 x7_5 ∧ Aside0 (r01_Read.l1 kq a0 x4_5 x6_5 x7_5 = some (r1, r2)) ∧ Aside0 (kq ≤ k4) ∧ Drawn0 w w')
           case atStart => exact ⟨(0), (0), rs_, rs_, H', ⟨Nat.le_refl _⟩, dr_⟩
           case round =>
            clear H'
            try clear c1
            try clear p1
            try clear q1
            try clear hx1
            try clear qi1
            try clear c2
            try clear p2
            try clear c3
            try clear c3b0
            try clear c3b1
            try clear c4
            try clear c4b0
            try clear c4b1
            try clear c5
            try clear p5
            try clear q5
            try clear hx5
            try clear qi5
            try clear c6
            try clear p6
            try clear c7
            try clear c8
            try clear c8b0
            try clear c8b1
            try clear c10
            try clear c10b0
            try clear c10b1
            try clear c11
            try clear c11b0
            try clear c11b1
            try clear p12
            try clear q12
            try clear hx12
            try clear qi12
            try clear c13
            try clear c13b0
            try clear c13b1
            try clear c14
            try clear c15
            try clear c15b0
            try clear c16
            try clear c16b0
            try clear p17
            try clear q17
            try clear hx17
            try clear c18
            try clear c18b0
            try clear p19
            try clear q19
            try clear hx19
            try clear c20
            try clear c20b0
            try clear p1
            try clear p12
            try clear p17
            try clear p19
            try clear p2
            try clear p5
            try clear q1
            try clear q12
            try clear q17
            try clear q19
            try clear q5
            obtain ⟨x6_5, x7_5, rfl, rfl, HA, HK5, ⟨m5, rfl⟩⟩ := hrel
            cases gk with
            | zero => exact absurd HA.out (by simp [r01_Read.l1])
            | succ k5 =>
             have H := HA.out
             clear HA
             simp only [r01_Read.l1] at H
             by_cases c21 : x7_5 < (x4_5.size : Int)
             ·
              rw [if_pos c21] at H
              have c21b0 : decide (x7_5 < (x4_5.size : Int)) = true := decide_eq_true c21
              clear c21
              obtain ⟨c22b0, H⟩ := gdd H
              by_cases c24 : x6_5 < (wrap64 (Int.tdiv ((-9223372036854775808) + (((bt x4_5 x7_5) - 48) % 256)) 10))
              ·
               rw [if_pos c24] at H
               have c24b0 : decide (x6_5 < (wrap64 (Int.tdiv ((-9223372036854775808) + (((bt x4_5 x7_5) - 48) % 256)) 10))) = true := decide_eq_true c24
               have c24b7 : decide (x6_5 < Int.tdiv ((-9223372036854775808) + (((bt x4_5 x7_5) - 48) % 256)) 10) = true := by rw [← r01_Read.wtd (a := ((-9223372036854775808) + (((bt x4_5 x7_5) - 48) % 256))) (by omega) (by omega)]; exact c24b0
               clear c24
               simp only [Option.some.injEq, Prod.mk.injEq] at H
               obtain ⟨rfl, rfl⟩ := H
               have p23 : 0 ≤ (x7_5 : Int) := od
               have q23 : x7_5 < (x4_5.size : Int) := od
               have hx23 := bt_at x4_5 x7_5
               replace p23 := eq_true p23
               replace q23 := eq_true q23
               go_wp2
               go_ret2
               exact ⟨rs_, dr_⟩
              ·
               rw [if_neg c24] at H
               have c24b0 : decide (x6_5 < (wrap64 (Int.tdiv ((-9223372036854775808) + (((bt x4_5 x7_5) - 48) % 256)) 10))) = false := decide_eq_false c24
               have c24b7 : decide (x6_5 < Int.tdiv ((-9223372036854775808) + (((bt x4_5 x7_5) - 48) % 256)) 10) = false := by rw [← r01_Read.wtd (a := ((-9223372036854775808) + (((bt x4_5 x7_5) - 48) % 256))) (by omega) (by omega)]; exact c24b0
               clear c24
               have H' := Aside0.mk H
               clear H
               have p23 : 0 ≤ (x7_5 : Int) := od
               have q23 : x7_5 < (x4_5.size : Int) := od
               have hx23 := bt_at x4_5 x7_5
               replace p23 := eq_true p23
               replace q23 := eq_true q23
               go_wp2
               go_roundg k5
               case measure => have := HJ1.out; have := HJ5.out; have := HJ8.out; have := HK4.out; have := HK5.out; omega
               case rel => exact ⟨(wrap64 ((wrap64 (10 * x6_5)) - (((bt x4_5 x7_5) - 48) % 256))), (wrap64 (x7_5 + 1)), rs_, rs_, H', ⟨by have := HJ1.out; have := HJ5.out; have := HJ8.out; have := HK4.out; have := HK5.out; omega⟩, dr_⟩
             ·
              rw [if_neg c21] at H
              have c21b0 : decide (x7_5 < (x4_5.size : Int)) = false := decide_eq_false c21
              clear c21
              by_cases c25 : (x4_5.size : Int) < (a0.size : Int)
              ·
               rw [if_pos c25] at H
               have c25b0 : decide ((x4_5.size : Int) < (a0.size : Int)) = true := decide_eq_true c25
               have c25b1 : decide (x4_5.size < a0.size) = true := decide_eq_true (Int.ofNat_lt.mp c25)
               clear c25
               simp only [Option.some.injEq, Prod.mk.injEq] at H
               obtain ⟨rfl, rfl⟩ := H
               go_wp2
               go_ret2
               exact ⟨rs_, dr_⟩
              ·
               rw [if_neg c25] at H
               have c25b0 : decide ((x4_5.size : Int) < (a0.size : Int)) = false := decide_eq_false c25
               have c25b1 : decide (x4_5.size < a0.size) = false := decide_eq_false (fun h => c25 (Int.ofNat_lt.mpr h))
               clear c25
               by_cases c26 : x6_5 = (-9223372036854775808)
               ·
                rw [if_pos c26] at H
                have c26b0 : (x6_5 == (-9223372036854775808)) = true := beq_iff_eq.mpr c26
                have c26b1 : (x6_5 != (-9223372036854775808)) = false := bne_eq_false_iff_eq.mpr c26
                clear c26
                simp only [Option.some.injEq, Prod.mk.injEq] at H
                obtain ⟨rfl, rfl⟩ := H
                go_wp2
                go_ret2
                exact ⟨rs_, dr_⟩
               ·
                rw [if_neg c26] at H
                have c26b0 : (x6_5 == (-9223372036854775808)) = false := beq_eq_false_iff_ne.mpr c26
                have c26b1 : (x6_5 != (-9223372036854775808)) = true := bne_iff_ne.mpr c26
                simp only [Option.some.injEq, Prod.mk.injEq] at H
                obtain ⟨rfl, rfl⟩ := H
                go_wp2
                go_ret2
                exact ⟨rs_, dr_⟩
def r01_Parse.j0 : Nat → ByteArray → Bool → Option (Int × Bool × Int)
 | 0, _, _ => none
 | k + 1, x0, x4 => if x4 = true then (if 0 ≤ (wrap64 ((x0.size : Int) - 1)) then (if (wrap64 ((x0.size : Int) - 1)) ≤ (x0.size : Int) then ((r01_Read.f k (x0.extract 0 ((wrap64 ((x0.size : Int) - 1)) : Int).toNat)).bind fun bt195 => (if bt195.2 = 0 then (some (bt195.1, x4, 0)) else (some (0, false, bt195.2)))) else (none)) else (none)) else ((r01_Read.f k x0).bind fun bt197 => (if bt197.2 = 0 then (some (bt197.1, x4, 0)) else (some (0, false, bt197.2))))
def r01_Parse.f (k : Nat) (a0 : ByteArray) : Option (Int × Bool × Int) := if (a0.size : Int) > 0 then (if 0 ≤ (wrap64 ((a0.size : Int) - 1)) then (if (wrap64 ((a0.size : Int) - 1)) < (a0.size : Int) then (r01_Parse.j0 k a0 ((bt a0 (wrap64 ((a0.size : Int) - 1))) == 33)) else (none)) else (none)) else (r01_Parse.j0 k a0 false)
theorem r01_Parse.mono_l : ∀ k, (∀ y0 y1, LeC (r01_Parse.j0 k y0 y1) (r01_Parse.j0 (k + 1) y0 y1))
 | 0 => fun _ _ => ⟨fun r h => by simp [r01_Parse.j0] at h⟩
 | k + 1 => by have ih0 := r01_Parse.mono_l k; exact fun _ _ => by unfold r01_Parse.j0; exact lm
theorem r01_Parse.mono : ∀ a0 k, LeO (r01_Parse.f k a0) (r01_Parse.f (k + 1) a0) := by
 intro a0 k
 have ih0 := r01_Parse.mono_l k
 unfold r01_Parse.f
 exact lo
instance r01_Parse.mI {a0 k} : LeC (r01_Parse.f k a0) (r01_Parse.f (k + 1) a0) := ⟨r01_Parse.mono _ _⟩
theorem r01_Parse.calls (k : Nat) (a0 : ByteArray) (r1 : Int) (r2 : Bool) (r3 : Int) (w : World) (h : r01_Parse.f k a0 = some (r1, r2, r3)) :
 Calls Tryz.prog 63 #[.string a0] w fun e w' => e = .returned (.tuple #[.agg #[.int .i64 r1, .bool r2], .int .i64 r3]) ∧ Below w.heap.size w w' := by
 have hu43 := Tryz.underlying43
 have HB := Aside0.mk (Below.refl w.heap.size w)
 have H : (if (a0.size : Int) > 0 then (if 0 ≤ (wrap64 ((a0.size : Int) - 1)) then (if (wrap64 ((a0.size : Int) - 1)) < (a0.size : Int) then (r01_Parse.j0 k a0 ((bt a0 (wrap64 ((a0.size : Int) - 1))) == 33)) else (none)) else (none)) else (r01_Parse.j0 k a0 false)) = some (r1, r2, r3) := h
 clear h
 have HC2 := Aside0.mk H
 clear H
 go_enter Tryz.func63, Tryz.ntmps63
 go_upto_region 1 with (first | ((with_reducible refine gate_dst (N := 2) rfl ?_); (try (refine gate_guard (by rfl) ?_; dsimp only)); refine bx (N := 2) #[.int .i64 0, .bool false] 43 ?_; intro gb194 hg w3 hbox hb; have BK194 := Aside0.mk (hbox); have GW194 := gw hg (uW HB.out); have GE194 := GW194; replace HB := cW HB hb; clear hb hbox hg))
 (try simp only [Act.put, List.setIfInBounds_toArray, List.set_cons_zero, List.set_cons_succ])
 go_cut [4] (fun v4 wc => ∃ (kq : Nat) (x4_1 : Bool), v4 = .bool x4_1 ∧ Aside0 (r01_Parse.j0 kq a0 x4_1 = some (r1, r2, r3)) ∧ Aside0 (kq ≤ k) ∧ Aside0 (wc.heap[gb194]? = some (.cells #[.int .i64 0, .bool false] 43 (0, 0))) ∧ Aside0 (Below w.heap.size w wc))
 case first =>
  have H := HC2.out
  clear HC2
  by_cases c4 : (a0.size : Int) > 0
  ·
   rw [if_pos c4] at H
   have c4b0 : decide (0 < (a0.size : Int)) = true := decide_eq_true c4
   have c4b1 : decide (0 < a0.size) = true := decide_eq_true (by omega)
   clear c4
   (first | rw [c4b0] | (simp only [i64_w, i32_w]; rw [c4b0]) | skip)
   obtain ⟨ji5, hji5⟩ : ∃ j_ : Int, (wrap64 ((a0.size : Int) - 1)) = j_ := ⟨_, rfl⟩
   (first | rw [hji5] at H | simp only [hji5] at H)
   have hji5w : (IntKind.i64.wrap ((a0.size : Int) - 1)) = ji5 := (i64_w _).trans hji5
   obtain ⟨c6b0, H⟩ := gdd H
   obtain ⟨c7b0, H⟩ := gdd H
   have H' := Aside0.mk H
   clear H
   have p8 : 0 ≤ ((ji5) : Int) := od
   have q8 : (ji5) < (a0.size : Int) := od
   have hx8 := bt_at a0 (ji5)
   replace p8 := eq_true p8
   replace q8 := eq_true q8
   go_wp2
   go_meet
   case rel => exact ⟨_, (((bt a0 (ji5)) == 33)), (by first | rfl | (simp; done) | (simp only [← hji5] <;> (first | rfl | simp)) | (simp [*]; done)), H', ⟨by first | omega | exact Nat.le_refl _⟩, ⟨uB BK194.out⟩, ⟨bl⟩⟩
  ·
   rw [if_neg c4] at H
   have c4b0 : decide (0 < (a0.size : Int)) = false := decide_eq_false c4
   have c4b1 : decide (0 < a0.size) = false := decide_eq_false (by omega)
   clear c4
   (first | rw [c4b0] | (simp only [i64_w, i32_w]; rw [c4b0]) | skip)
   have H' := Aside0.mk H
   clear H
   go_wp2
   go_meet
   case rel => exact ⟨_, (false), rs_, H', ⟨by first | omega | exact Nat.le_refl _⟩, ⟨uB BK194.out⟩, ⟨bl⟩⟩
 case rest =>
  clear HC2
  try clear p2
  try clear c4
  try clear c4b0
  try clear c4b1
  try clear c6
  try clear c6b0
  try clear p6
  try clear c7
  try clear c7b0
  try clear p8
  try clear q8
  try clear hx8
  try clear p8
  try clear q8
  obtain ⟨kq, x4_1, rfl, HA, HJ1, BK194, HB⟩ := hcut
  cases kq with
  | zero => exact absurd HA.out (by simp [r01_Parse.j0])
  | succ kj1 =>
   have H := HA.out
   clear HA
   simp only [r01_Parse.j0] at H
   by_cases c9 : x4_1 = true
   ·
    subst c9
    rw [if_pos rfl] at H
    obtain ⟨ji10, hji10⟩ : ∃ j_ : Int, (wrap64 ((a0.size : Int) - 1)) = j_ := ⟨_, rfl⟩
    (first | rw [hji10] at H | simp only [hji10] at H)
    have hji10w : (IntKind.i64.wrap ((a0.size : Int) - 1)) = ji10 := (i64_w _).trans hji10
    obtain ⟨c11, H⟩ := gd H
    have c11b0 := eq_true c11
    have c11b1 : decide (0 ≤ (ji10)) = true := decide_eq_true c11
    clear c11
    obtain ⟨c12, H⟩ := gd H
    have c12b0 := eq_true c12
    have c12b1 : decide ((ji10) ≤ (a0.size : Int)) = true := decide_eq_true c12
    clear c12
    obtain ⟨⟨t195, t196⟩, A13, H⟩ := bs H
    try dsimp only at H
    by_cases c14 : t196 = 0
    ·
     rw [if_pos c14] at H
     have c14b0 : (t196 == 0) = true := beq_iff_eq.mpr c14
     have c14b1 : (t196 != 0) = false := bne_eq_false_iff_eq.mpr c14
     clear c14
     simp only [Option.some.injEq, Prod.mk.injEq] at H
     obtain ⟨rfl, rfl, rfl⟩ := H
     go_wp2_with (first | ((with_reducible refine gate_callee (f := 60) rfl ?_); refine goesL_ (some 26) rfl rfl Tryz.func60 (by kernel_rfl) rfl #[.string (a0.extract 0 ((ji10) : Int).toNat)] rfl (by (try simp only [List.map_toArray, List.map_cons, List.map_nil]); first | done | (simp only [hji10]; rfl) | rfl | (simp only [List.length_drop, List.length_take]; rfl)) ?_; (with_reducible refine (r01_Read.calls kj1 (a0.extract 0 ((ji10) : Int).toNat) t195 t196 _ A13.out).mono ?_); rintro e w' ⟨rfl, ⟨nd, rfl⟩⟩; refine ⟨_, rfl, ?_⟩; (try (rw [drewN_self wc]; generalize hq_ : World.drewN wc _ = wc; have n0_ : Aside0 (wc.heap[gb194]? = some (.cells #[.int .i64 0, .bool false] 43 (0, 0))) := ⟨by rw [← hq_]; exact (uB BK194.out)⟩; have n1_ : Aside0 (Below w.heap.size w wc) := ⟨by rw [← hq_]; exact bl⟩; clear BK194 HB hq_; have BK194 := n0_; have HB := n1_; clear n0_ n1_)); obtain ⟨hcz15_0, hcz15_1, hfz15_0, hfz15_1⟩ := z2 BK194))
     refine bodyPost_ret (results_ct rfl _ _ gb194 43 #[.int .i64 t195, .bool true] (0, 0) _ rfl (by (with_reducible repeat (first | refine blk_drewN ?_ _ | refine blk_drew ?_ | refine blk_alloc ?_ _)); refine blk_put (cs := #[.int .i64 t195, .bool false]) ?_ 1 _ rfl; (with_reducible repeat (first | refine blk_drewN ?_ _ | refine blk_drew ?_ | refine blk_alloc ?_ _)); refine blk_put (cs := #[.int .i64 0, .bool false]) ?_ 0 _ rfl; exact uB <| BK194.out) Tryz.underlying43 rfl (by kernel_rfl)) rfl ?_
     exact ⟨by first | rfl | (simp [errW_none, errW_some] <;> rfl) | (simp only [← hji10]; first | rfl | (simp [errW_none, errW_some] <;> rfl)) | (simp [*, errW_none, errW_some] <;> rfl), bl⟩
    ·
     rw [if_neg c14] at H
     have c14b0 : (t196 == 0) = false := beq_eq_false_iff_ne.mpr c14
     have c14b1 : (t196 != 0) = true := bne_iff_ne.mpr c14
     simp only [Option.some.injEq, Prod.mk.injEq] at H
     obtain ⟨rfl, rfl, rfl⟩ := H
     go_wp2_with (first | ((with_reducible refine gate_callee (f := 60) rfl ?_); refine goesL_ (some 26) rfl rfl Tryz.func60 (by kernel_rfl) rfl #[.string (a0.extract 0 ((ji10) : Int).toNat)] rfl (by (try simp only [List.map_toArray, List.map_cons, List.map_nil]); first | done | (simp only [hji10]; rfl) | rfl | (simp only [List.length_drop, List.length_take]; rfl)) ?_; (with_reducible refine (r01_Read.calls kj1 (a0.extract 0 ((ji10) : Int).toNat) t195 t196 _ A13.out).mono ?_); rintro e w' ⟨rfl, ⟨nd, rfl⟩⟩; refine ⟨_, rfl, ?_⟩; (try (rw [drewN_self wc]; generalize hq_ : World.drewN wc _ = wc; have n0_ : Aside0 (wc.heap[gb194]? = some (.cells #[.int .i64 0, .bool false] 43 (0, 0))) := ⟨by rw [← hq_]; exact (uB BK194.out)⟩; have n1_ : Aside0 (Below w.heap.size w wc) := ⟨by rw [← hq_]; exact bl⟩; clear BK194 HB hq_; have BK194 := n0_; have HB := n1_; clear n0_ n1_)); obtain ⟨hcz16_0, hcz16_1, hfz16_0, hfz16_1⟩ := z2 BK194))
     refine bodyPost_ret (results_ct rfl _ _ gb194 43 #[.int .i64 0, .bool false] (0, 0) _ rfl (by (with_reducible repeat (first | refine blk_drewN ?_ _ | refine blk_drew ?_ | refine blk_alloc ?_ _)); refine blk_put (cs := #[.int .i64 0, .bool false]) ?_ 1 _ rfl; (with_reducible repeat (first | refine blk_drewN ?_ _ | refine blk_drew ?_ | refine blk_alloc ?_ _)); refine blk_put (cs := #[.int .i64 0, .bool false]) ?_ 0 _ rfl; exact uB <| BK194.out) Tryz.underlying43 rfl (by kernel_rfl)) rfl ?_
     exact ⟨by first | rfl | (simp [errW_none, errW_some] <;> rfl) | (simp only [← hji10]; first | rfl | (simp [errW_none, errW_some] <;> rfl)) | (simp [*, errW_none, errW_some] <;> rfl), bl⟩
   ·
    replace c9 := Bool.eq_false_iff.mpr c9
    subst c9
    rw [if_neg (show ¬ (false = true) by decide)] at H
    obtain ⟨⟨t197, t198⟩, A17, H⟩ := bs H
    try dsimp only at H
    by_cases c18 : t198 = 0
    ·
     rw [if_pos c18] at H
     have c18b0 : (t198 == 0) = true := beq_iff_eq.mpr c18
     have c18b1 : (t198 != 0) = false := bne_eq_false_iff_eq.mpr c18
     clear c18
     simp only [Option.some.injEq, Prod.mk.injEq] at H
     obtain ⟨rfl, rfl, rfl⟩ := H
     go_wp2_with (first | (refine gL (some 26) rfl Tryz.func60 #[.string a0] ?_; (with_reducible refine (r01_Read.calls kj1 a0 t197 t198 _ A17.out).mono ?_); rintro e w' ⟨rfl, ⟨nd, rfl⟩⟩; refine ⟨_, rfl, ?_⟩; (try (rw [drewN_self wc]; generalize hq_ : World.drewN wc _ = wc; have n0_ : Aside0 (wc.heap[gb194]? = some (.cells #[.int .i64 0, .bool false] 43 (0, 0))) := ⟨by rw [← hq_]; exact (uB BK194.out)⟩; have n1_ : Aside0 (Below w.heap.size w wc) := ⟨by rw [← hq_]; exact bl⟩; clear BK194 HB hq_; have BK194 := n0_; have HB := n1_; clear n0_ n1_)); obtain ⟨hcz19_0, hcz19_1, hfz19_0, hfz19_1⟩ := z2 BK194))
     refine bodyPost_ret (results_ct rfl _ _ gb194 43 #[.int .i64 t197, .bool false] (0, 0) _ rfl (by (with_reducible repeat (first | refine blk_drewN ?_ _ | refine blk_drew ?_ | refine blk_alloc ?_ _)); refine blk_put (cs := #[.int .i64 t197, .bool false]) ?_ 1 _ rfl; (with_reducible repeat (first | refine blk_drewN ?_ _ | refine blk_drew ?_ | refine blk_alloc ?_ _)); refine blk_put (cs := #[.int .i64 0, .bool false]) ?_ 0 _ rfl; exact uB <| BK194.out) Tryz.underlying43 rfl (by kernel_rfl)) rfl ?_
     exact ⟨re_, bl⟩
    ·
     rw [if_neg c18] at H
     have c18b0 : (t198 == 0) = false := beq_eq_false_iff_ne.mpr c18
     have c18b1 : (t198 != 0) = true := bne_iff_ne.mpr c18
     simp only [Option.some.injEq, Prod.mk.injEq] at H
     obtain ⟨rfl, rfl, rfl⟩ := H
     go_wp2_with (first | (refine gL (some 26) rfl Tryz.func60 #[.string a0] ?_; (with_reducible refine (r01_Read.calls kj1 a0 t197 t198 _ A17.out).mono ?_); rintro e w' ⟨rfl, ⟨nd, rfl⟩⟩; refine ⟨_, rfl, ?_⟩; (try (rw [drewN_self wc]; generalize hq_ : World.drewN wc _ = wc; have n0_ : Aside0 (wc.heap[gb194]? = some (.cells #[.int .i64 0, .bool false] 43 (0, 0))) := ⟨by rw [← hq_]; exact (uB BK194.out)⟩; have n1_ : Aside0 (Below w.heap.size w wc) := ⟨by rw [← hq_]; exact bl⟩; clear BK194 HB hq_; have BK194 := n0_; have HB := n1_; clear n0_ n1_)); obtain ⟨hcz20_0, hcz20_1, hfz20_0, hfz20_1⟩ := z2 BK194))
     refine bodyPost_ret (results_ct rfl _ _ gb194 43 #[.int .i64 0, .bool false] (0, 0) _ rfl (by (with_reducible repeat (first | refine blk_drewN ?_ _ | refine blk_drew ?_ | refine blk_alloc ?_ _)); refine blk_put (cs := #[.int .i64 0, .bool false]) ?_ 1 _ rfl; (with_reducible repeat (first | refine blk_drewN ?_ _ | refine blk_drew ?_ | refine blk_alloc ?_ _)); refine blk_put (cs := #[.int .i64 0, .bool false]) ?_ 0 _ rfl; exact uB <| BK194.out) Tryz.underlying43 rfl (by kernel_rfl)) rfl ?_
     exact ⟨re_, bl⟩
def r08_one.f (k : Nat) (a0 : ByteArray) : Option (Int × ByteArray × Int × Bool × Int) := (r02_Split.f k a0 124).bind fun t200 => (if (t200.length : Int) = 3 then (if 0 < (t200.length : Int) then ((r01_Read.f k (rdOf ByteArray.empty t200 0)).bind fun bt204 => (if bt204.2 = 0 then (if 1 < (t200.length : Int) then ((r08_group.f k (rdOf ByteArray.empty t200 1)).bind fun t207 => (if t207 = 0 then (if 2 < (t200.length : Int) then ((r01_Parse.f k (rdOf ByteArray.empty t200 2)).bind fun bt209 => (if bt209.2.2 = 0 then (some (bt204.1, rdOf ByteArray.empty t200 1, bt209.1, bt209.2.1, 0)) else (some (0, (⟨#[]⟩ : ByteArray), 0, false, bt209.2.2)))) else (none)) else (some (0, (⟨#[]⟩ : ByteArray), 0, false, t207)))) else (none)) else (some (0, (⟨#[]⟩ : ByteArray), 0, false, bt204.2)))) else (none)) else (some (0, (⟨#[]⟩ : ByteArray), 0, false, 2)))
theorem r08_one.mono : ∀ a0 k, LeO (r08_one.f k a0) (r08_one.f (k + 1) a0) := by
 intro a0 k
 unfold r08_one.f
 exact lo
instance r08_one.mI {a0 k} : LeC (r08_one.f k a0) (r08_one.f (k + 1) a0) := ⟨r08_one.mono _ _⟩
def r08_one.T13 : Bool × List (List Nat × List Nat) := (true, [([], []), ([], []), ([1], [1]), ([2], [2]), ([], []), ([0, 3, 4], [0, 3, 4]), ([5, 0, 1, 2, 3, 4, 5], [5]), ([6, 0, 1, 2, 3, 4, 5, 6], [])])
def r08_one.B13 : List Nat := [0, 0, 2, 6, 0, 31, 63, 127]
theorem r08_one.tab13 : rtab .any (opsOf Tryz.f43 13) = r08_one.T13 := by kernel_rfl
theorem r08_one.bits13 : waitsOk r08_one.T13.2 r08_one.B13 = true := by kernel_rfl
theorem r08_one.calls (k : Nat) (a0 : ByteArray) (r1 : Int) (r2 : ByteArray) (r3 : Int) (r4 : Bool) (r5 : Int) (w : World) (h : r08_one.f k a0 = some (r1, r2, r3, r4, r5)) :
 Calls Tryz.prog 43 #[.string a0] w fun e w' => e = .returned (.tuple #[.agg #[.int .i64 r1, .string r2, .int .i64 r3, .bool r4], .int .i64 r5]) ∧ Below w.heap.size w w' := by
 have hu45 := Tryz.underlying45
 have hu43 := Tryz.underlying43
 have HB := Aside0.mk (Below.refl w.heap.size w)
 have H : ((r02_Split.f k a0 124).bind fun t200 => (if (t200.length : Int) = 3 then (if 0 < (t200.length : Int) then ((r01_Read.f k (rdOf ByteArray.empty t200 0)).bind fun bt204 => (if bt204.2 = 0 then (if 1 < (t200.length : Int) then ((r08_group.f k (rdOf ByteArray.empty t200 1)).bind fun t207 => (if t207 = 0 then (if 2 < (t200.length : Int) then ((r01_Parse.f k (rdOf ByteArray.empty t200 2)).bind fun bt209 => (if bt209.2.2 = 0 then (some (bt204.1, rdOf ByteArray.empty t200 1, bt209.1, bt209.2.1, 0)) else (some (0, (⟨#[]⟩ : ByteArray), 0, false, bt209.2.2)))) else (none)) else (some (0, (⟨#[]⟩ : ByteArray), 0, false, t207)))) else (none)) else (some (0, (⟨#[]⟩ : ByteArray), 0, false, bt204.2)))) else (none)) else (some (0, (⟨#[]⟩ : ByteArray), 0, false, 2)))) = some (r1, r2, r3, r4, r5) := h
 clear h
 obtain ⟨t200, A2, H⟩ := bs H
 try dsimp only at H
 by_cases c3 : (t200.length : Int) = 3
 ·
  rw [if_pos c3] at H
  have c3b0 : ((t200.length : Int) == 3) = true := beq_iff_eq.mpr c3
  have c3b1 : ((t200.length : Int) != 3) = false := bne_eq_false_iff_eq.mpr c3
  clear c3
  obtain ⟨c4, H⟩ := gd H
  have c4b0 : decide (0 < (t200.length : Int)) = true := decide_eq_true c4
  have c4b1 : decide (0 < t200.length) = true := decide_eq_true (by omega)
  clear c4
  obtain ⟨⟨t204, t205⟩, A5, H⟩ := bs H
  try dsimp only at H
  by_cases c6 : t205 = 0
  ·
   rw [if_pos c6] at H
   have c6b0 : (t205 == 0) = true := beq_iff_eq.mpr c6
   have c6b1 : (t205 != 0) = false := bne_eq_false_iff_eq.mpr c6
   clear c6
   obtain ⟨c7, H⟩ := gd H
   have c7b0 : decide (1 < (t200.length : Int)) = true := decide_eq_true c7
   have c7b1 : decide (1 < t200.length) = true := decide_eq_true (by omega)
   clear c7
   obtain ⟨t207, A8, H⟩ := bs H
   try dsimp only at H
   by_cases c9 : t207 = 0
   ·
    rw [if_pos c9] at H
    have c9b0 : (t207 == 0) = true := beq_iff_eq.mpr c9
    have c9b1 : (t207 != 0) = false := bne_eq_false_iff_eq.mpr c9
    clear c9
    obtain ⟨c10, H⟩ := gd H
    have c10b0 : decide (2 < (t200.length : Int)) = true := decide_eq_true c10
    have c10b1 : decide (2 < t200.length) = true := decide_eq_true (by omega)
    clear c10
    obtain ⟨⟨t209, t210, t211⟩, A11, H⟩ := bs H
    try dsimp only at H
    by_cases c12 : t211 = 0
    ·
     rw [if_pos c12] at H
     have c12b0 : (t211 == 0) = true := beq_iff_eq.mpr c12
     have c12b1 : (t211 != 0) = false := bne_eq_false_iff_eq.mpr c12
     clear c12
     simp only [Option.some.injEq, Prod.mk.injEq] at H
     obtain ⟨rfl, rfl, rfl, rfl, rfl⟩ := H
     go_enter Tryz.func43, Tryz.ntmps43
     try go_wp2_with (first | ((with_reducible refine gate_dst (N := 2) rfl ?_); refine bx (N := 2) #[.int .i64 0, .string (⟨#[]⟩ : ByteArray), .int .i64 0, .bool false] 45 ?_; intro gb199 hg w13 hbox hb; have BK199 := Aside0.mk (hbox); have GW199 := gw hg (uW HB.out); have GE199 := GW199; replace HB := cW HB hb; clear hb hbox hg) | (refine gL (some 9) rfl Tryz.func41 #[.string a0, .int .u8 124] ?_; (with_reducible refine (r02_Split.calls k a0 124 t200 _ A2.out).mono ?_); rintro e w14 ⟨v201, rfl, ho0, hb⟩; refine ⟨_, rfl, ?_⟩; have HO202 := Aside0.mk (Kd.R_lower ho0 (below_size bl)); replace BK199 := cB BK199 hb; replace HB := Aside0.mk (below_step bl hb); (try clear hb); (try clear ho0); obtain ⟨Ao15, co15, eo15⟩ := Kd.R_slice HO202.out; subst eo15; have p203 : 0 ≤ (0 : Int) := (by omega); have q203 : 0 < (t200.length : Int) := od; obtain ⟨ad203, e203, hx203_0⟩ := Kd.at_string (Kd.R_reads' HO202.out).2.2 0 p203 q203; cases e203; have qi203 : (0 < t200.length) = True := eq_true (by omega); (try rw [show ((0 : Int)).toNat = 0 from rfl] at hx203_0); (try rw [Addr.add_zero'] at hx203_0); replace p203 := eq_true p203; replace q203 := eq_true q203) | (refine gL (some 18) rfl Tryz.func60 #[.string (rdOf ByteArray.empty t200 0)] ?_; (with_reducible refine (r01_Read.calls k (rdOf ByteArray.empty t200 0) t204 t205 _ A5.out).mono ?_); rintro e w' ⟨rfl, ⟨nd, rfl⟩⟩; refine ⟨_, rfl, ?_⟩; (try (rw [drewN_self w14]; generalize hq_ : World.drewN w14 _ = w14; have n0_ : Aside0 (Kd.R Kd.string 9 w14 w.heap.size (fun _ => True) (.slice (some ad203) t200.length co15) t200) := ⟨by rw [← hq_]; exact (uR HO202.out)⟩; have n1_ : Aside0 (w14.heap[gb199]? = some (.cells #[.int .i64 0, .string (⟨#[]⟩ : ByteArray), .int .i64 0, .bool false] 45 (0, 0))) := ⟨by rw [← hq_]; exact (uB BK199.out)⟩; have n2_ : Aside0 (Below w.heap.size w w14) := ⟨by rw [← hq_]; exact bl⟩; clear HO202 BK199 HB hq_; have HO202 := n0_; have BK199 := n1_; have HB := n2_; clear n0_ n1_ n2_)); have p206 : 0 ≤ (1 : Int) := (by omega); have q206 : 1 < (t200.length : Int) := od; obtain ⟨ad206, e206, hx206_0⟩ := Kd.at_string (Kd.R_reads' HO202.out).2.2 1 p206 q206; obtain rfl : ad203 = ad206 := (by injection e206); (try simp only [show (1 : Int).toNat = 1 from rfl, Nat.reduceMul, Nat.reduceEqDiff, Go.Addr.add, ↓reduceIte] at hx206_0); have qi206 : (1 < t200.length) = True := eq_true (by omega); (try rw [show ((1 : Int)).toNat = 1 from rfl] at hx206_0); replace p206 := eq_true p206; replace q206 := eq_true q206) | (refine gL (some 28) rfl Tryz.func51 #[.string (rdOf ByteArray.empty t200 1)] ?_; (with_reducible refine (r08_group.calls k (rdOf ByteArray.empty t200 1) t207 _ A8.out).mono ?_); rintro e w16 ⟨rfl, hb⟩; refine ⟨_, rfl, ?_⟩; replace HO202 := cR HO202 hb; replace BK199 := cB BK199 hb; replace HB := Aside0.mk (below_step bl hb); (try clear hb); have p208 : 0 ≤ (2 : Int) := (by omega); have q208 : 2 < (t200.length : Int) := od; obtain ⟨ad208, e208, hx208_0⟩ := Kd.at_string (Kd.R_reads' HO202.out).2.2 2 p208 q208; obtain rfl : ad203 = ad208 := (by injection e208); (try simp only [show (2 : Int).toNat = 2 from rfl, Nat.reduceMul, Nat.reduceEqDiff, Go.Addr.add, ↓reduceIte] at hx208_0); have qi208 : (2 < t200.length) = True := eq_true (by omega); (try rw [show ((2 : Int)).toNat = 2 from rfl] at hx208_0); replace p208 := eq_true p208; replace q208 := eq_true q208) | (refine gL (some 37) rfl Tryz.func63 #[.string (rdOf ByteArray.empty t200 2)] ?_; (with_reducible refine (r01_Parse.calls k (rdOf ByteArray.empty t200 2) t209 t210 t211 _ A11.out).mono ?_); rintro e w17 ⟨rfl, hb⟩; refine ⟨_, rfl, ?_⟩; replace HO202 := cR HO202 hb; replace BK199 := cB BK199 hb; replace HB := Aside0.mk (below_step bl hb); (try clear hb)) | ((with_reducible refine gate_dst (N := 7) rfl ?_); refine bx (N := 7) #[.int .i64 0, .bool false] 43 ?_; intro gb212 hg w18 hbox hb; replace HO202 := cR HO202 hb; have BK212 := Aside0.mk (hbox); have GW212 := gw hg bl; have GE212 := GW212; replace HB := Aside0.mk (below_step bl hb); have NB199_212 := Aside0.mk ((by rw [hg]; exact Nat.ne_of_lt (blk_lt (g := gb199) (o := .cells #[.int .i64 0, .string (⟨#[]⟩ : ByteArray), .int .i64 0, .bool false] 45 (0, 0)) (uB BK199.out)) : gb199 ≠ gb212)); have NB212_199 := Aside0.mk ((by rw [hg]; exact Nat.ne_of_gt (blk_lt (g := gb199) (o := .cells #[.int .i64 0, .string (⟨#[]⟩ : ByteArray), .int .i64 0, .bool false] 45 (0, 0)) (uB BK199.out)) : gb212 ≠ gb199)); replace BK199 := cB BK199 hb; clear hb hbox hg; have hnb19 := NB212_199.out; have hnc19 := NB199_212.out; obtain ⟨hcz20_0, hcz20_1, hfz20_0, hfz20_1⟩ := z2 BK212))
     have n0_ : Aside0 (Kd.R Kd.string 9 ((w18.setCell ⟨gb212, 0, none⟩ (.int .i64 t209)).setCell ⟨gb212, 1, none⟩ (.bool t210)) w.heap.size (fun _ => True) (.slice (some ad203) t200.length co15) t200) := ⟨by exact uR <| Kd.R_mono (Kd.R_far (p := ⟨gb212, 1, none⟩) (Kd.R_far (p := ⟨gb212, 0, none⟩) (Kd.R_types HO202.out BK212.out (by decide)) (fun _ hk => hk.2) (.int .i64 t209)) (fun _ hk => hk.2) (.bool t210)) (fun _ hk => trivial)⟩
     have n1_ : Aside0 (((w18.setCell ⟨gb212, 0, none⟩ (.int .i64 t209)).setCell ⟨gb212, 1, none⟩ (.bool t210)).heap[gb199]? = some (.cells #[.int .i64 0, .string (⟨#[]⟩ : ByteArray), .int .i64 0, .bool false] 45 (0, 0))) := ⟨by (with_reducible repeat (first | refine blk_drewN ?_ _ | refine blk_drew ?_ | refine blk_alloc ?_ _)); refine blk_far ?_ NB199_212.out _; (with_reducible repeat (first | refine blk_drewN ?_ _ | refine blk_drew ?_ | refine blk_alloc ?_ _)); refine blk_far ?_ NB199_212.out _; exact uB <| BK199.out⟩
     have n2_ : Aside0 (((w18.setCell ⟨gb212, 0, none⟩ (.int .i64 t209)).setCell ⟨gb212, 1, none⟩ (.bool t210)).heap[gb212]? = some (.cells #[.int .i64 t209, .bool t210] 43 (0, 0))) := ⟨by (with_reducible repeat (first | refine blk_drewN ?_ _ | refine blk_drew ?_ | refine blk_alloc ?_ _)); refine blk_put (cs := #[.int .i64 t209, .bool false]) ?_ 1 _ rfl; (with_reducible repeat (first | refine blk_drewN ?_ _ | refine blk_drew ?_ | refine blk_alloc ?_ _)); refine blk_put (cs := #[.int .i64 0, .bool false]) ?_ 0 _ rfl; exact uB <| BK212.out⟩
     have n3_ : Aside0 (Below w.heap.size w ((w18.setCell ⟨gb212, 0, none⟩ (.int .i64 t209)).setCell ⟨gb212, 1, none⟩ (.bool t210))) := ⟨bl⟩
     (try clear HO202)
     (try clear BK199)
     (try clear BK212)
     (try clear HB)
     generalize ((w18.setCell ⟨gb212, 0, none⟩ (.int .i64 t209)).setCell ⟨gb212, 1, none⟩ (.bool t210)) = w21 at n0_ n1_ n2_ n3_ ⊢
     have HO202 := n0_
     have BK199 := n1_
     have BK212 := n2_
     have HB := n3_
     clear n0_ n1_ n2_ n3_
     replace HO202 := Aside0.mk (Kd.R_drew HO202.out)
     replace BK199 := Aside0.mk (blk_drew BK199.out)
     replace BK212 := Aside0.mk (blk_drew BK212.out)
     replace HB := Aside0.mk (below_drew1 HB.out)
     have p213 : 0 ≤ (1 : Int) := (by omega)
     have q213 : 1 < (t200.length : Int) := od
     obtain ⟨ad213, e213, hx213_0⟩ := Kd.at_string (Kd.R_reads' HO202.out).2.2 1 p213 q213
     obtain rfl : ad203 = ad213 := (by injection e213)
     (try simp only [show (1 : Int).toNat = 1 from rfl, Nat.reduceMul, Nat.reduceEqDiff, Go.Addr.add, ↓reduceIte] at hx213_0)
     have qi213 : (1 < t200.length) = True := eq_true (by omega)
     (try rw [show ((1 : Int)).toNat = 1 from rfl] at hx213_0)
     replace p213 := eq_true p213
     replace q213 := eq_true q213
     refine start_ (n := 8) (S := fun w' => w'.cell? ⟨gb212, 0, none⟩ = some (.int .i64 t209) ∧ w'.cell? ⟨gb212, 1, none⟩ = some (.bool t210) ∧ w'.cell? ⟨ad203.block, ad203.off + 1, none⟩ = some (.string (rdOf ByteArray.empty t200 1))) (ds := []) _ (by kernel_rfl) rfl rfl ⟨(blk_cell BK212.out 0).trans rfl, (blk_cell BK212.out 1).trans rfl, hx213_0⟩ (fun hHeld => ?_); refine with_tabW r08_one.tab13 r08_one.bits13 (fun HT_ HW_ => ?_)
     generalize w21.drew = w22 at HO202 BK199 BK212 HB hx213_0 hHeld ⊢
     refine p1 0 (some 44) ?_
     refine p1 1 (some 45) ?_
     refine p1 2 (some 46) ?_
     refine t1 3 (some 47) rfl rfl hHeld (Or.inl ⟨by rfl, by rintro w' ⟨s0, s1, s2⟩; go_simp; with_reducible rfl⟩) ?_
     refine t1 4 (some 48) rfl rfl hHeld (Or.inl ⟨by rfl, by rintro w' ⟨s0, s1, s2⟩; go_simp; with_reducible rfl⟩) ?_
     refine p1 5 (some 49) ?_
     refine o1 6 none rfl rfl (fun K hK => ?_)
     have hs23 : w22.cell? ⟨gb199, 0, none⟩ = some (.int .i64 0) := (blk_cell BK199.out 0).trans rfl
     have hfs23 := blk_frozen BK199.out 0
     have hns23_1 := NB212_199.out
     have hms23_1 := NB199_212.out
     have hs24 : w22.cell? ⟨gb199, 1, none⟩ = some (.string (⟨#[]⟩ : ByteArray)) := (blk_cell BK199.out 1).trans rfl
     have hfs24 := blk_frozen BK199.out 1
     have hns24_1 := NB212_199.out
     have hms24_1 := NB199_212.out
     have hs25 : w22.cell? ⟨gb199, 2, none⟩ = some (.int .i64 0) := (blk_cell BK199.out 2).trans rfl
     have hfs25 := blk_frozen BK199.out 2
     have hns25_1 := NB212_199.out
     have hms25_1 := NB199_212.out
     have hs26 : w22.cell? ⟨gb199, 3, none⟩ = some (.bool false) := (blk_cell BK199.out 3).trans rfl
     have hfs26 := blk_frozen BK199.out 3
     have hns26_1 := NB212_199.out
     have hms26_1 := NB199_212.out
     refine skip_ (w1 := ?_) (by rfl) rfl ?_ ?_
     rotate_left
     ·
      go_simp
      rfl
     refine hK.out _ _ ⟨((cell_far (p := ⟨gb199, _, none⟩) NB212_199.out _).trans (((cell_far (p := ⟨gb199, _, none⟩) NB212_199.out _).trans (((cell_far (p := ⟨gb199, _, none⟩) NB212_199.out _).trans (((cell_far (p := ⟨gb199, _, none⟩) NB212_199.out _).trans (hHeld.1)))))))), ((cell_far (p := ⟨gb199, _, none⟩) NB212_199.out _).trans (((cell_far (p := ⟨gb199, _, none⟩) NB212_199.out _).trans (((cell_far (p := ⟨gb199, _, none⟩) NB212_199.out _).trans (((cell_far (p := ⟨gb199, _, none⟩) NB212_199.out _).trans (hHeld.2.1)))))))), ((cell_far (p := ⟨gb199, _, none⟩) (by first | exact Kd.own_blk (Kd.R_ne HO202.out BK199.out (by decide)) | (rw [add_block]; exact Kd.own_blk (Kd.R_ne HO202.out BK199.out (by decide))) | (show (Addr.add _ _).block ≠ _; rw [add_block]; exact Kd.own_blk (Kd.R_ne HO202.out BK199.out (by decide))) | (dsimp only; exact Kd.own_blk (Kd.R_ne HO202.out BK199.out (by decide)))) _).trans (((cell_far (p := ⟨gb199, _, none⟩) (by first | exact Kd.own_blk (Kd.R_ne HO202.out BK199.out (by decide)) | (rw [add_block]; exact Kd.own_blk (Kd.R_ne HO202.out BK199.out (by decide))) | (show (Addr.add _ _).block ≠ _; rw [add_block]; exact Kd.own_blk (Kd.R_ne HO202.out BK199.out (by decide))) | (dsimp only; exact Kd.own_blk (Kd.R_ne HO202.out BK199.out (by decide)))) _).trans (((cell_far (p := ⟨gb199, _, none⟩) (by first | exact Kd.own_blk (Kd.R_ne HO202.out BK199.out (by decide)) | (rw [add_block]; exact Kd.own_blk (Kd.R_ne HO202.out BK199.out (by decide))) | (show (Addr.add _ _).block ≠ _; rw [add_block]; exact Kd.own_blk (Kd.R_ne HO202.out BK199.out (by decide))) | (dsimp only; exact Kd.own_blk (Kd.R_ne HO202.out BK199.out (by decide)))) _).trans (((cell_far (p := ⟨gb199, _, none⟩) (by first | exact Kd.own_blk (Kd.R_ne HO202.out BK199.out (by decide)) | (rw [add_block]; exact Kd.own_blk (Kd.R_ne HO202.out BK199.out (by decide))) | (show (Addr.add _ _).block ≠ _; rw [add_block]; exact Kd.own_blk (Kd.R_ne HO202.out BK199.out (by decide))) | (dsimp only; exact Kd.own_blk (Kd.R_ne HO202.out BK199.out (by decide)))) _).trans (hHeld.2.2))))))))⟩ (fun hHeld => ?_)
     clear hK K
     refine p1 7 (some 3) ?_
     refine done_ (done_of HT_.out (by kernel_rfl)) ?_
     try go_wp2
     refine bodyPost_ret (results_ct rfl _ _ gb199 45 #[.int .i64 t204, .string (rdOf ByteArray.empty t200 1), .int .i64 t209, .bool t210] (0, 0) _ rfl (by (with_reducible repeat (first | refine blk_drewN ?_ _ | refine blk_drew ?_ | refine blk_alloc ?_ _)); refine blk_put (cs := #[.int .i64 t204, .string (rdOf ByteArray.empty t200 1), .int .i64 t209, .bool false]) ?_ 3 _ rfl; (with_reducible repeat (first | refine blk_drewN ?_ _ | refine blk_drew ?_ | refine blk_alloc ?_ _)); refine blk_put (cs := #[.int .i64 t204, .string (rdOf ByteArray.empty t200 1), .int .i64 0, .bool false]) ?_ 2 _ rfl; (with_reducible repeat (first | refine blk_drewN ?_ _ | refine blk_drew ?_ | refine blk_alloc ?_ _)); refine blk_put (cs := #[.int .i64 t204, .string (⟨#[]⟩ : ByteArray), .int .i64 0, .bool false]) ?_ 1 _ rfl; (with_reducible repeat (first | refine blk_drewN ?_ _ | refine blk_drew ?_ | refine blk_alloc ?_ _)); refine blk_put (cs := #[.int .i64 0, .string (⟨#[]⟩ : ByteArray), .int .i64 0, .bool false]) ?_ 0 _ rfl; exact uB <| BK199.out) Tryz.underlying45 rfl (by kernel_rfl)) rfl ?_
     exact ⟨re_, bl⟩
    ·
     rw [if_neg c12] at H
     have c12b0 : (t211 == 0) = false := beq_eq_false_iff_ne.mpr c12
     have c12b1 : (t211 != 0) = true := bne_iff_ne.mpr c12
     simp only [Option.some.injEq, Prod.mk.injEq] at H
     obtain ⟨rfl, rfl, rfl, rfl, rfl⟩ := H
     go_enter Tryz.func43, Tryz.ntmps43
     go_wp2_with (first | ((with_reducible refine gate_dst (N := 2) rfl ?_); refine bx (N := 2) #[.int .i64 0, .string (⟨#[]⟩ : ByteArray), .int .i64 0, .bool false] 45 ?_; intro gb199 hg w27 hbox hb; have BK199 := Aside0.mk (hbox); have GW199 := gw hg (uW HB.out); have GE199 := GW199; replace HB := cW HB hb; clear hb hbox hg) | (refine gL (some 9) rfl Tryz.func41 #[.string a0, .int .u8 124] ?_; (with_reducible refine (r02_Split.calls k a0 124 t200 _ A2.out).mono ?_); rintro e w28 ⟨v201, rfl, ho0, hb⟩; refine ⟨_, rfl, ?_⟩; have HO202 := Aside0.mk (Kd.R_lower ho0 (below_size bl)); replace BK199 := cB BK199 hb; replace HB := Aside0.mk (below_step bl hb); (try clear hb); (try clear ho0); obtain ⟨Ao29, co29, eo29⟩ := Kd.R_slice HO202.out; subst eo29; have p203 : 0 ≤ (0 : Int) := (by omega); have q203 : 0 < (t200.length : Int) := od; obtain ⟨ad203, e203, hx203_0⟩ := Kd.at_string (Kd.R_reads' HO202.out).2.2 0 p203 q203; cases e203; have qi203 : (0 < t200.length) = True := eq_true (by omega); (try rw [show ((0 : Int)).toNat = 0 from rfl] at hx203_0); (try rw [Addr.add_zero'] at hx203_0); replace p203 := eq_true p203; replace q203 := eq_true q203) | (refine gL (some 18) rfl Tryz.func60 #[.string (rdOf ByteArray.empty t200 0)] ?_; (with_reducible refine (r01_Read.calls k (rdOf ByteArray.empty t200 0) t204 t205 _ A5.out).mono ?_); rintro e w' ⟨rfl, ⟨nd, rfl⟩⟩; refine ⟨_, rfl, ?_⟩; (try (rw [drewN_self w28]; generalize hq_ : World.drewN w28 _ = w28; have n0_ : Aside0 (Kd.R Kd.string 9 w28 w.heap.size (fun _ => True) (.slice (some ad203) t200.length co29) t200) := ⟨by rw [← hq_]; exact (uR HO202.out)⟩; have n1_ : Aside0 (w28.heap[gb199]? = some (.cells #[.int .i64 0, .string (⟨#[]⟩ : ByteArray), .int .i64 0, .bool false] 45 (0, 0))) := ⟨by rw [← hq_]; exact (uB BK199.out)⟩; have n2_ : Aside0 (Below w.heap.size w w28) := ⟨by rw [← hq_]; exact bl⟩; clear HO202 BK199 HB hq_; have HO202 := n0_; have BK199 := n1_; have HB := n2_; clear n0_ n1_ n2_)); have p206 : 0 ≤ (1 : Int) := (by omega); have q206 : 1 < (t200.length : Int) := od; obtain ⟨ad206, e206, hx206_0⟩ := Kd.at_string (Kd.R_reads' HO202.out).2.2 1 p206 q206; obtain rfl : ad203 = ad206 := (by injection e206); (try simp only [show (1 : Int).toNat = 1 from rfl, Nat.reduceMul, Nat.reduceEqDiff, Go.Addr.add, ↓reduceIte] at hx206_0); have qi206 : (1 < t200.length) = True := eq_true (by omega); (try rw [show ((1 : Int)).toNat = 1 from rfl] at hx206_0); replace p206 := eq_true p206; replace q206 := eq_true q206) | (refine gL (some 28) rfl Tryz.func51 #[.string (rdOf ByteArray.empty t200 1)] ?_; (with_reducible refine (r08_group.calls k (rdOf ByteArray.empty t200 1) t207 _ A8.out).mono ?_); rintro e w30 ⟨rfl, hb⟩; refine ⟨_, rfl, ?_⟩; replace HO202 := cR HO202 hb; replace BK199 := cB BK199 hb; replace HB := Aside0.mk (below_step bl hb); (try clear hb); have p208 : 0 ≤ (2 : Int) := (by omega); have q208 : 2 < (t200.length : Int) := od; obtain ⟨ad208, e208, hx208_0⟩ := Kd.at_string (Kd.R_reads' HO202.out).2.2 2 p208 q208; obtain rfl : ad203 = ad208 := (by injection e208); (try simp only [show (2 : Int).toNat = 2 from rfl, Nat.reduceMul, Nat.reduceEqDiff, Go.Addr.add, ↓reduceIte] at hx208_0); have qi208 : (2 < t200.length) = True := eq_true (by omega); (try rw [show ((2 : Int)).toNat = 2 from rfl] at hx208_0); replace p208 := eq_true p208; replace q208 := eq_true q208) | (refine gL (some 37) rfl Tryz.func63 #[.string (rdOf ByteArray.empty t200 2)] ?_; (with_reducible refine (r01_Parse.calls k (rdOf ByteArray.empty t200 2) t209 t210 t211 _ A11.out).mono ?_); rintro e w31 ⟨rfl, hb⟩; refine ⟨_, rfl, ?_⟩; replace HO202 := cR HO202 hb; replace BK199 := cB BK199 hb; replace HB := Aside0.mk (below_step bl hb); (try clear hb)) | ((with_reducible refine gate_dst (N := 7) rfl ?_); refine bx (N := 7) #[.int .i64 0, .bool false] 43 ?_; intro gb212 hg w32 hbox hb; replace HO202 := cR HO202 hb; have BK212 := Aside0.mk (hbox); have GW212 := gw hg bl; have GE212 := GW212; replace HB := Aside0.mk (below_step bl hb); have NB199_212 := Aside0.mk ((by rw [hg]; exact Nat.ne_of_lt (blk_lt (g := gb199) (o := .cells #[.int .i64 0, .string (⟨#[]⟩ : ByteArray), .int .i64 0, .bool false] 45 (0, 0)) (uB BK199.out)) : gb199 ≠ gb212)); have NB212_199 := Aside0.mk ((by rw [hg]; exact Nat.ne_of_gt (blk_lt (g := gb199) (o := .cells #[.int .i64 0, .string (⟨#[]⟩ : ByteArray), .int .i64 0, .bool false] 45 (0, 0)) (uB BK199.out)) : gb212 ≠ gb199)); replace BK199 := cB BK199 hb; clear hb hbox hg; have hnb33 := NB212_199.out; have hnc33 := NB199_212.out; obtain ⟨hcz34_0, hcz34_1, hfz34_0, hfz34_1⟩ := z2 BK212; obtain ⟨hcz35_0, hcz35_1, hcz35_2, hcz35_3, hfz35_0, hfz35_1, hfz35_2, hfz35_3⟩ := z4 BK199) | ((with_reducible refine gate_store (t := 45) (p := 2) rfl ?_); refine store_event (t := 45) (p := 2) (v := ?vo_w36) (w1 := ((((((w32.setCell ⟨gb212, 0, none⟩ (.int .i64 t209)).setCell ⟨gb212, 1, none⟩ (.bool t210)).setCell ⟨gb199, 0, none⟩ (.int .i64 0)).setCell ⟨gb199, 1, none⟩ (.string (⟨#[]⟩ : ByteArray))).setCell ⟨gb199, 2, none⟩ (.int .i64 0)).setCell ⟨gb199, 3, none⟩ (.bool false))) ?hg ?ho ?hn ?hr ?_; (case ho => rfl); (case hg => rfl); (case hn => rfl); (case hr => first | (go_simp; done) | (go_simp; rfl)); intro w36 hw; have n0_ : Aside0 (Kd.R Kd.string 9 w36 w.heap.size (fun _ => True) (.slice (some ad203) t200.length co29) t200) := ⟨(by rw [hw]; exact (by exact uR <| Kd.R_mono (Kd.R_far (p := ⟨gb199, 3, none⟩) (Kd.R_far (p := ⟨gb199, 2, none⟩) (Kd.R_far (p := ⟨gb199, 1, none⟩) (Kd.R_far (p := ⟨gb199, 0, none⟩) (Kd.R_far (p := ⟨gb212, 1, none⟩) (Kd.R_far (p := ⟨gb212, 0, none⟩) (Kd.R_types (Kd.R_types HO202.out BK212.out (by decide)) BK199.out (by decide)) (fun _ hk => hk.1.2) (.int .i64 t209)) (fun _ hk => hk.1.2) (.bool t210)) (fun _ hk => hk.2) (.int .i64 0)) (fun _ hk => hk.2) (.string (⟨#[]⟩ : ByteArray))) (fun _ hk => hk.2) (.int .i64 0)) (fun _ hk => hk.2) (.bool false)) (fun _ hk => trivial)))⟩; have n1_ : Aside0 (w36.heap[gb199]? = some (.cells #[.int .i64 0, .string (⟨#[]⟩ : ByteArray), .int .i64 0, .bool false] 45 (0, 0))) := ⟨(by rw [hw]; exact (by (with_reducible repeat (first | refine blk_drewN ?_ _ | refine blk_drew ?_ | refine blk_alloc ?_ _)); refine blk_put (cs := #[.int .i64 0, .string (⟨#[]⟩ : ByteArray), .int .i64 0, .bool false]) ?_ 3 _ rfl; (with_reducible repeat (first | refine blk_drewN ?_ _ | refine blk_drew ?_ | refine blk_alloc ?_ _)); refine blk_put (cs := #[.int .i64 0, .string (⟨#[]⟩ : ByteArray), .int .i64 0, .bool false]) ?_ 2 _ rfl; (with_reducible repeat (first | refine blk_drewN ?_ _ | refine blk_drew ?_ | refine blk_alloc ?_ _)); refine blk_put (cs := #[.int .i64 0, .string (⟨#[]⟩ : ByteArray), .int .i64 0, .bool false]) ?_ 1 _ rfl; (with_reducible repeat (first | refine blk_drewN ?_ _ | refine blk_drew ?_ | refine blk_alloc ?_ _)); refine blk_put (cs := #[.int .i64 0, .string (⟨#[]⟩ : ByteArray), .int .i64 0, .bool false]) ?_ 0 _ rfl; (with_reducible repeat (first | refine blk_drewN ?_ _ | refine blk_drew ?_ | refine blk_alloc ?_ _)); refine blk_far ?_ NB199_212.out _; (with_reducible repeat (first | refine blk_drewN ?_ _ | refine blk_drew ?_ | refine blk_alloc ?_ _)); refine blk_far ?_ NB199_212.out _; exact uB <| BK199.out))⟩; have n2_ : Aside0 (w36.heap[gb212]? = some (.cells #[.int .i64 t209, .bool t210] 43 (0, 0))) := ⟨(by rw [hw]; exact (by (with_reducible repeat (first | refine blk_drewN ?_ _ | refine blk_drew ?_ | refine blk_alloc ?_ _)); refine blk_far ?_ NB212_199.out _; (with_reducible repeat (first | refine blk_drewN ?_ _ | refine blk_drew ?_ | refine blk_alloc ?_ _)); refine blk_far ?_ NB212_199.out _; (with_reducible repeat (first | refine blk_drewN ?_ _ | refine blk_drew ?_ | refine blk_alloc ?_ _)); refine blk_far ?_ NB212_199.out _; (with_reducible repeat (first | refine blk_drewN ?_ _ | refine blk_drew ?_ | refine blk_alloc ?_ _)); refine blk_far ?_ NB212_199.out _; (with_reducible repeat (first | refine blk_drewN ?_ _ | refine blk_drew ?_ | refine blk_alloc ?_ _)); refine blk_put (cs := #[.int .i64 t209, .bool false]) ?_ 1 _ rfl; (with_reducible repeat (first | refine blk_drewN ?_ _ | refine blk_drew ?_ | refine blk_alloc ?_ _)); refine blk_put (cs := #[.int .i64 0, .bool false]) ?_ 0 _ rfl; exact uB <| BK212.out))⟩; have n3_ : Aside0 (Below w.heap.size w w36) := ⟨(by rw [hw]; exact bl)⟩; clear hw; clear HO202; clear BK199; clear BK212; clear HB; have HO202 := n0_; have BK199 := n1_; have BK212 := n2_; have HB := n3_; clear n0_ n1_ n2_ n3_))
     refine bodyPost_ret (results_ct rfl _ _ gb199 45 #[.int .i64 0, .string (⟨#[]⟩ : ByteArray), .int .i64 0, .bool false] (0, 0) _ rfl (uB BK199.out) Tryz.underlying45 rfl (by kernel_rfl)) rfl ?_
     exact ⟨re_, bl⟩
   ·
    rw [if_neg c9] at H
    have c9b0 : (t207 == 0) = false := beq_eq_false_iff_ne.mpr c9
    have c9b1 : (t207 != 0) = true := bne_iff_ne.mpr c9
    simp only [Option.some.injEq, Prod.mk.injEq] at H
    obtain ⟨rfl, rfl, rfl, rfl, rfl⟩ := H
    go_enter Tryz.func43, Tryz.ntmps43
    go_wp2_with (first | ((with_reducible refine gate_dst (N := 2) rfl ?_); refine bx (N := 2) #[.int .i64 0, .string (⟨#[]⟩ : ByteArray), .int .i64 0, .bool false] 45 ?_; intro gb199 hg w37 hbox hb; have BK199 := Aside0.mk (hbox); have GW199 := gw hg (uW HB.out); have GE199 := GW199; replace HB := cW HB hb; clear hb hbox hg) | (refine gL (some 9) rfl Tryz.func41 #[.string a0, .int .u8 124] ?_; (with_reducible refine (r02_Split.calls k a0 124 t200 _ A2.out).mono ?_); rintro e w38 ⟨v201, rfl, ho0, hb⟩; refine ⟨_, rfl, ?_⟩; have HO202 := Aside0.mk (Kd.R_lower ho0 (below_size bl)); replace BK199 := cB BK199 hb; replace HB := Aside0.mk (below_step bl hb); (try clear hb); (try clear ho0); obtain ⟨Ao39, co39, eo39⟩ := Kd.R_slice HO202.out; subst eo39; have p203 : 0 ≤ (0 : Int) := (by omega); have q203 : 0 < (t200.length : Int) := od; obtain ⟨ad203, e203, hx203_0⟩ := Kd.at_string (Kd.R_reads' HO202.out).2.2 0 p203 q203; cases e203; have qi203 : (0 < t200.length) = True := eq_true (by omega); (try rw [show ((0 : Int)).toNat = 0 from rfl] at hx203_0); (try rw [Addr.add_zero'] at hx203_0); replace p203 := eq_true p203; replace q203 := eq_true q203) | (refine gL (some 18) rfl Tryz.func60 #[.string (rdOf ByteArray.empty t200 0)] ?_; (with_reducible refine (r01_Read.calls k (rdOf ByteArray.empty t200 0) t204 t205 _ A5.out).mono ?_); rintro e w' ⟨rfl, ⟨nd, rfl⟩⟩; refine ⟨_, rfl, ?_⟩; (try (rw [drewN_self w38]; generalize hq_ : World.drewN w38 _ = w38; have n0_ : Aside0 (Kd.R Kd.string 9 w38 w.heap.size (fun _ => True) (.slice (some ad203) t200.length co39) t200) := ⟨by rw [← hq_]; exact (uR HO202.out)⟩; have n1_ : Aside0 (w38.heap[gb199]? = some (.cells #[.int .i64 0, .string (⟨#[]⟩ : ByteArray), .int .i64 0, .bool false] 45 (0, 0))) := ⟨by rw [← hq_]; exact (uB BK199.out)⟩; have n2_ : Aside0 (Below w.heap.size w w38) := ⟨by rw [← hq_]; exact bl⟩; clear HO202 BK199 HB hq_; have HO202 := n0_; have BK199 := n1_; have HB := n2_; clear n0_ n1_ n2_)); have p206 : 0 ≤ (1 : Int) := (by omega); have q206 : 1 < (t200.length : Int) := od; obtain ⟨ad206, e206, hx206_0⟩ := Kd.at_string (Kd.R_reads' HO202.out).2.2 1 p206 q206; obtain rfl : ad203 = ad206 := (by injection e206); (try simp only [show (1 : Int).toNat = 1 from rfl, Nat.reduceMul, Nat.reduceEqDiff, Go.Addr.add, ↓reduceIte] at hx206_0); have qi206 : (1 < t200.length) = True := eq_true (by omega); (try rw [show ((1 : Int)).toNat = 1 from rfl] at hx206_0); replace p206 := eq_true p206; replace q206 := eq_true q206) | (refine gL (some 28) rfl Tryz.func51 #[.string (rdOf ByteArray.empty t200 1)] ?_; (with_reducible refine (r08_group.calls k (rdOf ByteArray.empty t200 1) t207 _ A8.out).mono ?_); rintro e w40 ⟨rfl, hb⟩; refine ⟨_, rfl, ?_⟩; replace HO202 := cR HO202 hb; replace BK199 := cB BK199 hb; replace HB := Aside0.mk (below_step bl hb); (try clear hb); obtain ⟨hcz41_0, hcz41_1, hcz41_2, hcz41_3, hfz41_0, hfz41_1, hfz41_2, hfz41_3⟩ := z4 BK199))
    refine bodyPost_ret (results_ct rfl _ _ gb199 45 #[.int .i64 0, .string (⟨#[]⟩ : ByteArray), .int .i64 0, .bool false] (0, 0) _ rfl (by (with_reducible repeat (first | refine blk_drewN ?_ _ | refine blk_drew ?_ | refine blk_alloc ?_ _)); refine blk_put (cs := #[.int .i64 0, .string (⟨#[]⟩ : ByteArray), .int .i64 0, .bool false]) ?_ 3 _ rfl; (with_reducible repeat (first | refine blk_drewN ?_ _ | refine blk_drew ?_ | refine blk_alloc ?_ _)); refine blk_put (cs := #[.int .i64 0, .string (⟨#[]⟩ : ByteArray), .int .i64 0, .bool false]) ?_ 2 _ rfl; (with_reducible repeat (first | refine blk_drewN ?_ _ | refine blk_drew ?_ | refine blk_alloc ?_ _)); refine blk_put (cs := #[.int .i64 0, .string (⟨#[]⟩ : ByteArray), .int .i64 0, .bool false]) ?_ 1 _ rfl; (with_reducible repeat (first | refine blk_drewN ?_ _ | refine blk_drew ?_ | refine blk_alloc ?_ _)); refine blk_put (cs := #[.int .i64 0, .string (⟨#[]⟩ : ByteArray), .int .i64 0, .bool false]) ?_ 0 _ rfl; exact uB <| BK199.out) Tryz.underlying45 rfl (by kernel_rfl)) rfl ?_
    exact ⟨re_, bl⟩
  ·
   rw [if_neg c6] at H
   have c6b0 : (t205 == 0) = false := beq_eq_false_iff_ne.mpr c6
   have c6b1 : (t205 != 0) = true := bne_iff_ne.mpr c6
   simp only [Option.some.injEq, Prod.mk.injEq] at H
   obtain ⟨rfl, rfl, rfl, rfl, rfl⟩ := H
   go_enter Tryz.func43, Tryz.ntmps43
   go_wp2_with (first | ((with_reducible refine gate_dst (N := 2) rfl ?_); refine bx (N := 2) #[.int .i64 0, .string (⟨#[]⟩ : ByteArray), .int .i64 0, .bool false] 45 ?_; intro gb199 hg w42 hbox hb; have BK199 := Aside0.mk (hbox); have GW199 := gw hg (uW HB.out); have GE199 := GW199; replace HB := cW HB hb; clear hb hbox hg) | (refine gL (some 9) rfl Tryz.func41 #[.string a0, .int .u8 124] ?_; (with_reducible refine (r02_Split.calls k a0 124 t200 _ A2.out).mono ?_); rintro e w43 ⟨v201, rfl, ho0, hb⟩; refine ⟨_, rfl, ?_⟩; have HO202 := Aside0.mk (Kd.R_lower ho0 (below_size bl)); replace BK199 := cB BK199 hb; replace HB := Aside0.mk (below_step bl hb); (try clear hb); (try clear ho0); obtain ⟨Ao44, co44, eo44⟩ := Kd.R_slice HO202.out; subst eo44; have p203 : 0 ≤ (0 : Int) := (by omega); have q203 : 0 < (t200.length : Int) := od; obtain ⟨ad203, e203, hx203_0⟩ := Kd.at_string (Kd.R_reads' HO202.out).2.2 0 p203 q203; cases e203; have qi203 : (0 < t200.length) = True := eq_true (by omega); (try rw [show ((0 : Int)).toNat = 0 from rfl] at hx203_0); (try rw [Addr.add_zero'] at hx203_0); replace p203 := eq_true p203; replace q203 := eq_true q203) | (refine gL (some 18) rfl Tryz.func60 #[.string (rdOf ByteArray.empty t200 0)] ?_; (with_reducible refine (r01_Read.calls k (rdOf ByteArray.empty t200 0) t204 t205 _ A5.out).mono ?_); rintro e w' ⟨rfl, ⟨nd, rfl⟩⟩; refine ⟨_, rfl, ?_⟩; (try (rw [drewN_self w43]; generalize hq_ : World.drewN w43 _ = w43; have n0_ : Aside0 (Kd.R Kd.string 9 w43 w.heap.size (fun _ => True) (.slice (some ad203) t200.length co44) t200) := ⟨by rw [← hq_]; exact (uR HO202.out)⟩; have n1_ : Aside0 (w43.heap[gb199]? = some (.cells #[.int .i64 0, .string (⟨#[]⟩ : ByteArray), .int .i64 0, .bool false] 45 (0, 0))) := ⟨by rw [← hq_]; exact (uB BK199.out)⟩; have n2_ : Aside0 (Below w.heap.size w w43) := ⟨by rw [← hq_]; exact bl⟩; clear HO202 BK199 HB hq_; have HO202 := n0_; have BK199 := n1_; have HB := n2_; clear n0_ n1_ n2_)); obtain ⟨hcz45_0, hcz45_1, hcz45_2, hcz45_3, hfz45_0, hfz45_1, hfz45_2, hfz45_3⟩ := z4 BK199))
   refine bodyPost_ret (results_ct rfl _ _ gb199 45 #[.int .i64 0, .string (⟨#[]⟩ : ByteArray), .int .i64 0, .bool false] (0, 0) _ rfl (by (with_reducible repeat (first | refine blk_drewN ?_ _ | refine blk_drew ?_ | refine blk_alloc ?_ _)); refine blk_put (cs := #[.int .i64 0, .string (⟨#[]⟩ : ByteArray), .int .i64 0, .bool false]) ?_ 3 _ rfl; (with_reducible repeat (first | refine blk_drewN ?_ _ | refine blk_drew ?_ | refine blk_alloc ?_ _)); refine blk_put (cs := #[.int .i64 0, .string (⟨#[]⟩ : ByteArray), .int .i64 0, .bool false]) ?_ 2 _ rfl; (with_reducible repeat (first | refine blk_drewN ?_ _ | refine blk_drew ?_ | refine blk_alloc ?_ _)); refine blk_put (cs := #[.int .i64 0, .string (⟨#[]⟩ : ByteArray), .int .i64 0, .bool false]) ?_ 1 _ rfl; (with_reducible repeat (first | refine blk_drewN ?_ _ | refine blk_drew ?_ | refine blk_alloc ?_ _)); refine blk_put (cs := #[.int .i64 0, .string (⟨#[]⟩ : ByteArray), .int .i64 0, .bool false]) ?_ 0 _ rfl; exact uB <| BK199.out) Tryz.underlying45 rfl (by kernel_rfl)) rfl ?_
   exact ⟨re_, bl⟩
 ·
  rw [if_neg c3] at H
  have c3b0 : ((t200.length : Int) == 3) = false := beq_eq_false_iff_ne.mpr c3
  have c3b1 : ((t200.length : Int) != 3) = true := bne_iff_ne.mpr c3
  simp only [Option.some.injEq, Prod.mk.injEq] at H
  obtain ⟨rfl, rfl, rfl, rfl, rfl⟩ := H
  go_enter Tryz.func43, Tryz.ntmps43
  go_wp2_with (first | ((with_reducible refine gate_dst (N := 2) rfl ?_); refine bx (N := 2) #[.int .i64 0, .string (⟨#[]⟩ : ByteArray), .int .i64 0, .bool false] 45 ?_; intro gb199 hg w46 hbox hb; have BK199 := Aside0.mk (hbox); have GW199 := gw hg (uW HB.out); have GE199 := GW199; replace HB := cW HB hb; clear hb hbox hg) | (refine gL (some 9) rfl Tryz.func41 #[.string a0, .int .u8 124] ?_; (with_reducible refine (r02_Split.calls k a0 124 t200 _ A2.out).mono ?_); rintro e w47 ⟨v201, rfl, ho0, hb⟩; refine ⟨_, rfl, ?_⟩; have HO202 := Aside0.mk (Kd.R_lower ho0 (below_size bl)); replace BK199 := cB BK199 hb; replace HB := Aside0.mk (below_step bl hb); (try clear hb); (try clear ho0); obtain ⟨Ao48, co48, eo48⟩ := Kd.R_slice HO202.out; subst eo48; obtain ⟨hcz49_0, hcz49_1, hcz49_2, hcz49_3, hfz49_0, hfz49_1, hfz49_2, hfz49_3⟩ := z4 BK199))
  refine bodyPost_ret (results_ct rfl _ _ gb199 45 #[.int .i64 0, .string (⟨#[]⟩ : ByteArray), .int .i64 0, .bool false] (0, 0) _ rfl (by (with_reducible repeat (first | refine blk_drewN ?_ _ | refine blk_drew ?_ | refine blk_alloc ?_ _)); refine blk_put (cs := #[.int .i64 0, .string (⟨#[]⟩ : ByteArray), .int .i64 0, .bool false]) ?_ 3 _ rfl; (with_reducible repeat (first | refine blk_drewN ?_ _ | refine blk_drew ?_ | refine blk_alloc ?_ _)); refine blk_put (cs := #[.int .i64 0, .string (⟨#[]⟩ : ByteArray), .int .i64 0, .bool false]) ?_ 2 _ rfl; (with_reducible repeat (first | refine blk_drewN ?_ _ | refine blk_drew ?_ | refine blk_alloc ?_ _)); refine blk_put (cs := #[.int .i64 0, .string (⟨#[]⟩ : ByteArray), .int .i64 0, .bool false]) ?_ 1 _ rfl; (with_reducible repeat (first | refine blk_drewN ?_ _ | refine blk_drew ?_ | refine blk_alloc ?_ _)); refine blk_put (cs := #[.int .i64 0, .string (⟨#[]⟩ : ByteArray), .int .i64 0, .bool false]) ?_ 0 _ rfl; exact uB <| BK199.out) Tryz.underlying45 rfl (by kernel_rfl)) rfl ?_
  exact ⟨re_, bl⟩
def r08_Before.f (a0_0 : Int) (a0_1 : ByteArray) (a0_2 : Int) (a0_3 : Bool) (a1_0 : Int) (a1_1 : ByteArray) (a1_2 : Int) (a1_3 : Bool) : Option (Bool) := if a0_0 < a1_0 then (some true) else (if a0_0 = a1_0 then (some (Op.bytesLess a0_1.toList a1_1.toList)) else (some false))
theorem r08_Before.calls (a0_0 : Int) (a0_1 : ByteArray) (a0_2 : Int) (a0_3 : Bool) (a1_0 : Int) (a1_1 : ByteArray) (a1_2 : Int) (a1_3 : Bool) (r : Bool) (w : World) (h : r08_Before.f a0_0 a0_1 a0_2 a0_3 a1_0 a1_1 a1_2 a1_3 = some r) :
 Calls Tryz.prog 37 #[.agg #[.int .i64 a0_0, .string a0_1, .int .i64 a0_2, .bool a0_3], .agg #[.int .i64 a1_0, .string a1_1, .int .i64 a1_2, .bool a1_3]] w fun e w' => e = .returned (.bool r) ∧ Below w.heap.size w w' := by
 have hu45 := Tryz.underlying45
 have HB := Aside0.mk (Below.refl w.heap.size w)
 have H : (if a0_0 < a1_0 then (some true) else (if a0_0 = a1_0 then (some (Op.bytesLess a0_1.toList a1_1.toList)) else (some false))) = some r := h
 clear h
 by_cases c3 : a0_0 < a1_0
 ·
  rw [if_pos c3] at H
  have c3b0 : decide (a0_0 < a1_0) = true := decide_eq_true c3
  clear c3
  obtain rfl := Option.some.inj H
  go_enter Tryz.func37, Tryz.ntmps37
  go_wp2_with (first | ((with_reducible refine gate_dst (N := 2) rfl ?_); refine bx (N := 2) #[.int .i64 a0_0, .string a0_1, .int .i64 a0_2, .bool a0_3] 45 ?_; intro gb214 hg w4 hbox hb; have BK214 := Aside0.mk (hbox); have GW214 := gw hg (uW HB.out); have GE214 := GW214; replace HB := cW HB hb; clear hb hbox hg) | ((with_reducible refine gate_dst (N := 3) rfl ?_); refine bx (N := 3) #[.int .i64 a1_0, .string a1_1, .int .i64 a1_2, .bool a1_3] 45 ?_; intro gb215 hg w5 hbox hb; have BK215 := Aside0.mk (hbox); have GW215 := gw hg bl; have GE215 := GW215; replace HB := Aside0.mk (below_step bl hb); have NB214_215 := Aside0.mk ((by rw [hg]; exact Nat.ne_of_lt (blk_lt (g := gb214) (o := .cells #[.int .i64 a0_0, .string a0_1, .int .i64 a0_2, .bool a0_3] 45 (0, 0)) (uB BK214.out)) : gb214 ≠ gb215)); have NB215_214 := Aside0.mk ((by rw [hg]; exact Nat.ne_of_gt (blk_lt (g := gb214) (o := .cells #[.int .i64 a0_0, .string a0_1, .int .i64 a0_2, .bool a0_3] 45 (0, 0)) (uB BK214.out)) : gb215 ≠ gb214)); replace BK214 := cB BK214 hb; clear hb hbox hg; have hnb6 := NB214_215.out; have hnc6 := NB215_214.out; obtain ⟨hcz7_0, hcz7_1, hcz7_2, hcz7_3, hfz7_0, hfz7_1, hfz7_2, hfz7_3⟩ := z4 BK214; obtain ⟨hcz8_0, hcz8_1, hcz8_2, hcz8_3, hfz8_0, hfz8_1, hfz8_2, hfz8_3⟩ := z4 BK215))
  go_ret
  exact ⟨re_, bl⟩
 ·
  rw [if_neg c3] at H
  have c3b0 : decide (a0_0 < a1_0) = false := decide_eq_false c3
  clear c3
  by_cases c9 : a0_0 = a1_0
  ·
   rw [if_pos c9] at H
   have c9b0 : (a0_0 == a1_0) = true := beq_iff_eq.mpr c9
   have c9b1 : (a0_0 != a1_0) = false := bne_eq_false_iff_eq.mpr c9
   clear c9
   obtain rfl := Option.some.inj H
   go_enter Tryz.func37, Tryz.ntmps37
   go_wp2_with (first | ((with_reducible refine gate_dst (N := 2) rfl ?_); refine bx (N := 2) #[.int .i64 a0_0, .string a0_1, .int .i64 a0_2, .bool a0_3] 45 ?_; intro gb214 hg w10 hbox hb; have BK214 := Aside0.mk (hbox); have GW214 := gw hg (uW HB.out); have GE214 := GW214; replace HB := cW HB hb; clear hb hbox hg) | ((with_reducible refine gate_dst (N := 3) rfl ?_); refine bx (N := 3) #[.int .i64 a1_0, .string a1_1, .int .i64 a1_2, .bool a1_3] 45 ?_; intro gb215 hg w11 hbox hb; have BK215 := Aside0.mk (hbox); have GW215 := gw hg bl; have GE215 := GW215; replace HB := Aside0.mk (below_step bl hb); have NB214_215 := Aside0.mk ((by rw [hg]; exact Nat.ne_of_lt (blk_lt (g := gb214) (o := .cells #[.int .i64 a0_0, .string a0_1, .int .i64 a0_2, .bool a0_3] 45 (0, 0)) (uB BK214.out)) : gb214 ≠ gb215)); have NB215_214 := Aside0.mk ((by rw [hg]; exact Nat.ne_of_gt (blk_lt (g := gb214) (o := .cells #[.int .i64 a0_0, .string a0_1, .int .i64 a0_2, .bool a0_3] 45 (0, 0)) (uB BK214.out)) : gb215 ≠ gb214)); replace BK214 := cB BK214 hb; clear hb hbox hg; have hnb12 := NB214_215.out; have hnc12 := NB215_214.out; obtain ⟨hcz13_0, hcz13_1, hcz13_2, hcz13_3, hfz13_0, hfz13_1, hfz13_2, hfz13_3⟩ := z4 BK214; obtain ⟨hcz14_0, hcz14_1, hcz14_2, hcz14_3, hfz14_0, hfz14_1, hfz14_2, hfz14_3⟩ := z4 BK215))
   go_ret
   exact ⟨re_, bl⟩
  ·
   rw [if_neg c9] at H
   have c9b0 : (a0_0 == a1_0) = false := beq_eq_false_iff_ne.mpr c9
   have c9b1 : (a0_0 != a1_0) = true := bne_iff_ne.mpr c9
   obtain rfl := Option.some.inj H
   go_enter Tryz.func37, Tryz.ntmps37
   go_wp2_with (first | ((with_reducible refine gate_dst (N := 2) rfl ?_); refine bx (N := 2) #[.int .i64 a0_0, .string a0_1, .int .i64 a0_2, .bool a0_3] 45 ?_; intro gb214 hg w15 hbox hb; have BK214 := Aside0.mk (hbox); have GW214 := gw hg (uW HB.out); have GE214 := GW214; replace HB := cW HB hb; clear hb hbox hg) | ((with_reducible refine gate_dst (N := 3) rfl ?_); refine bx (N := 3) #[.int .i64 a1_0, .string a1_1, .int .i64 a1_2, .bool a1_3] 45 ?_; intro gb215 hg w16 hbox hb; have BK215 := Aside0.mk (hbox); have GW215 := gw hg bl; have GE215 := GW215; replace HB := Aside0.mk (below_step bl hb); have NB214_215 := Aside0.mk ((by rw [hg]; exact Nat.ne_of_lt (blk_lt (g := gb214) (o := .cells #[.int .i64 a0_0, .string a0_1, .int .i64 a0_2, .bool a0_3] 45 (0, 0)) (uB BK214.out)) : gb214 ≠ gb215)); have NB215_214 := Aside0.mk ((by rw [hg]; exact Nat.ne_of_gt (blk_lt (g := gb214) (o := .cells #[.int .i64 a0_0, .string a0_1, .int .i64 a0_2, .bool a0_3] 45 (0, 0)) (uB BK214.out)) : gb215 ≠ gb214)); replace BK214 := cB BK214 hb; clear hb hbox hg; have hnb17 := NB214_215.out; have hnc17 := NB215_214.out; obtain ⟨hcz18_0, hcz18_1, hcz18_2, hcz18_3, hfz18_0, hfz18_1, hfz18_2, hfz18_3⟩ := z4 BK214; obtain ⟨hcz19_0, hcz19_1, hcz19_2, hcz19_3, hfz19_0, hfz19_1, hfz19_2, hfz19_3⟩ := z4 BK215))
   go_ret
   exact ⟨re_, bl⟩
end Go.Proofs.YtgcbejidponoaaaGreatDoor.X
