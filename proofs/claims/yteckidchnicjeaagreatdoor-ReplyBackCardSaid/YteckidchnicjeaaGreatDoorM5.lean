/- Printed by a program of this session's own: what functions of the program compute, and that the machine computes it. No condition of its own. -/
import Derived.Test.YteckidchnicjeaaGreatDoorM3
import Derived.Test.YteckidchnicjeaaGreatDoorM4
namespace Go.Proofs.YteckidchnicjeaaGreatDoor.X
open Go.RowKit Go.Proofs.YteckidchnicjeaaGreatDoorW.PrintWords Go.Proofs.YteckidchnicjeaaGreatDoorW.PrintLast Go.Proofs.YteckidchnicjeaaGreatDoorW.PrintMore
attribute [local go_sem] max2_int min2_int max_two min_two max_three min_three max_four min_four
set_option linter.unusedVariables false
set_option linter.unusedSimpArgs false
set_option maxHeartbeats 8000000
set_option maxRecDepth 100000
def word_Split.l0 : Nat → ByteArray → Int → List ByteArray → Option (List ByteArray)
 | 0, _, _, _ => none
 | k + 1, x0, x1, x4 => (strings_IndexByte.f x0 x1).bind fun t188 => (if t188 < 0 then (if x4.length < 8796093022208 then (some (x4 ++ [x0])) else (none)) else (if 0 ≤ t188 then (if t188 ≤ (x0.size : Int) then (if x4.length < 8796093022208 then (if 0 ≤ (wrap64 (t188 + 1)) then (if (wrap64 (t188 + 1)) ≤ (x0.size : Int) then (word_Split.l0 k (x0.extract ((wrap64 (t188 + 1)) : Int).toNat x0.size) x1 (x4 ++ [x0.extract 0 (t188 : Int).toNat])) else (none)) else (none)) else (none)) else (none)) else (none)))
def word_Split.f (k : Nat) (a0 : ByteArray) (a1 : Int) : Option (List ByteArray) := word_Split.l0 k a0 a1 ([] : List ByteArray)
theorem word_Split.mono_l : ∀ k, (∀ y0 y1 y2, LeC (word_Split.l0 k y0 y1 y2) (word_Split.l0 (k + 1) y0 y1 y2))
 | 0 => fun _ _ _ => ⟨fun r h => by simp [word_Split.l0] at h⟩
 | k + 1 => by have ih0 := word_Split.mono_l k; exact fun _ _ _ => by unfold word_Split.l0; exact lm
theorem word_Split.mono : ∀ a0 a1 k, LeO (word_Split.f k a0 a1) (word_Split.f (k + 1) a0 a1) := by
 intro a0 a1 k
 have ih0 := word_Split.mono_l k
 unfold word_Split.f
 exact lo
instance word_Split.mI {a0 a1 k} : LeC (word_Split.f k a0 a1) (word_Split.f (k + 1) a0 a1) := ⟨word_Split.mono _ _ _⟩
def word_Split.T4 : Bool × List (List Nat × List Nat) := (true, [([], []), ([], []), ([], []), ([1, 2], [1, 2]), ([3], [3]), ([0, 4], [0, 4]), ([], []), ([], []), ([7], [7]), ([6, 8], [6, 8]), ([5, 5, 0, 1, 2, 3, 4, 5], [0, 5]), ([9, 10, 0, 1, 2, 3, 4, 5, 6, 7, 8, 9, 10], [1, 6, 9])])
def word_Split.B4 : List Nat := [0, 0, 0, 6, 14, 31, 0, 0, 128, 448, 63, 2047]
theorem word_Split.tab4 : rtab .any (opsOf Tryz.f67 4) = word_Split.T4 := by kernel_rfl
theorem word_Split.bits4 : waitsOk word_Split.T4.2 word_Split.B4 = true := by kernel_rfl
theorem word_Split.calls (k : Nat) (a0 : ByteArray) (a1 : Int) (r : List ByteArray) (w : World) (h : word_Split.f k a0 a1 = some r) :
 Calls Tryz.prog 67 #[.string a0, .int .u8 a1] w fun e w' => ∃ v0_ : Value, e = .returned (v0_) ∧ Kd.R Kd.string 9 w' w.heap.size (fun _ => True) v0_ r ∧ Below w.heap.size w w' := by
 have HB := Aside0.mk (Below.refl w.heap.size w)
 have H : (word_Split.l0 k a0 a1 ([] : List ByteArray)) = some r := h
 clear h
 have H' := Aside0.mk H
 clear H
 go_enter Tryz.func67, Tryz.ntmps67
 go_wp2
 go_loopg [0, 4] k (fun kq v0 v4 w' => ∃ (x0_1 : ByteArray) (x4_1 : List ByteArray), v0 = .string x0_1 ∧ Aside0 (word_Split.l0 kq x0_1 a1 x4_1 = some r) ∧ Aside0 (kq ≤ k) ∧ Aside0 (Kd.R Kd.string 9 w' w.heap.size (fun _ => True) v4 x4_1) ∧ Aside0 (Below w.heap.size w w'))
 case atStart => exact ⟨(a0), (([] : List ByteArray)), rs_, H', ⟨Nat.le_refl _⟩, ⟨nl_⟩, ⟨uW HB.out⟩⟩
 case round =>
  clear H'
  obtain ⟨x0_1, x4_1, rfl, HA, HK1, HO_4, HB⟩ := hrel
  cases gk with
  | zero => exact absurd HA.out (by simp [word_Split.l0])
  | succ k1 =>
   have H := HA.out
   clear HA
   simp only [word_Split.l0] at H
   obtain ⟨t188, A3, H⟩ := bs H
   try dsimp only at H
   by_cases c4 : t188 < 0
   ·
    rw [if_pos c4] at H
    have c4b0 : decide (t188 < 0) = true := decide_eq_true c4
    clear c4
    obtain ⟨c5, H⟩ := gd H
    have LMc5 := Aside0.mk c5
    clear c5
    obtain ⟨y189, hy189⟩ : ∃ y_ : List ByteArray, y_ = (x4_1 ++ [x0_1]) := ⟨_, rfl⟩
    replace H : (some y189) = some r := by first | (rw [hy189]; with_reducible exact H) | (have H2_ := (Option.bind_some _ _).symm.trans H; rw [hy189]; with_reducible exact H2_) | (have H2_ := (Option.bind_some _ _).symm.trans H; with_reducible exact H2_) | with_reducible exact H | (rw [hy189]; exact H) | exact H
    have Ny189 := Aside0.mk hy189
    clear hy189
    obtain rfl := Option.some.inj H
    go_wp2_with (first | (refine gL (some 8) rfl Tryz.func82 #[.string x0_1, .int .u8 a1] ?_; (with_reducible refine (strings_IndexByte.calls x0_1 a1 t188 _ A3.out).mono ?_); rintro e w' ⟨rfl, ⟨nd, rfl⟩⟩; refine ⟨_, rfl, ?_⟩) | ((with_reducible refine gate_builtin (b := .append) (xs := #[.tmp 11, .tmp 13]) rfl ?_); at_builtin; refine Kd.R_append Kd.string (w0 := w) w.heap.size rfl (.tmp 11) (.tmp 13) 56 9 (.string ⟨#[]⟩) 16 rfl Tryz.underlying56 info9 rfl (by decide) (by omega) u4 x4_1 x0_1 [.string x0_1] (fun _ => True) (fun _ => False) rfl rfl ?aP (fun _ hk => hk.elim) ?aF ?aO ?aB ?aS ?aL ?_; (case aP => exact rfl); (case aB => exact (uW HB.out)); (case aF => exact (fun _ _ => trivial)); (case aO => exact (uR HO_4.out)); (case aS => exact (below_size (uW HB.out))); (case aL => have := LMc5.out; omega); intro v190 w6 ho hb hg hat; rw [← Ny189.out] at ho; replace HB := Aside0.mk (hb); have HO191 := Aside0.mk (ho); clear HO_4; clear ho hb hg hat))
    go_ret
    exact ⟨_, re_, uR HO191.out, uW HB.out⟩
   ·
    rw [if_neg c4] at H
    have c4b0 : decide (t188 < 0) = false := decide_eq_false c4
    clear c4
    by_cases c7 : 0 ≤ t188
    ·
     rw [if_pos c7] at H
     have c7b0 := eq_true c7
     have c7b1 : decide (0 ≤ t188) = true := decide_eq_true c7
     clear c7
     obtain ⟨c8, H⟩ := gd H
     have c8b0 := eq_true c8
     have c8b1 : decide (t188 ≤ (x0_1.size : Int)) = true := decide_eq_true c8
     clear c8
     obtain ⟨c9, H⟩ := gd H
     have LMc9 := Aside0.mk c9
     clear c9
     obtain ⟨y192, hy192⟩ : ∃ y_ : List ByteArray, y_ = (x4_1 ++ [x0_1.extract 0 (t188 : Int).toNat]) := ⟨_, rfl⟩
     replace H : (if 0 ≤ (wrap64 (t188 + 1)) then (if (wrap64 (t188 + 1)) ≤ (x0_1.size : Int) then (word_Split.l0 k1 (x0_1.extract ((wrap64 (t188 + 1)) : Int).toNat x0_1.size) a1 y192) else (none)) else (none)) = some r := by first | (rw [hy192]; with_reducible exact H) | (have H2_ := (Option.bind_some _ _).symm.trans H; rw [hy192]; with_reducible exact H2_) | (have H2_ := (Option.bind_some _ _).symm.trans H; with_reducible exact H2_) | with_reducible exact H | (rw [hy192]; exact H) | exact H
     have Ny192 := Aside0.mk hy192
     clear hy192
     obtain ⟨ji10, hji10⟩ : ∃ j_ : Int, (wrap64 (t188 + 1)) = j_ := ⟨_, rfl⟩
     (first | rw [hji10] at H | simp only [hji10] at H)
     (try rw [hji10] at A3)
     have hji10w : (IntKind.i64.wrap (t188 + 1)) = ji10 := (i64_w _).trans hji10
     obtain ⟨c11, H⟩ := gd H
     have c11b0 := eq_true c11
     have c11b1 : decide (0 ≤ (ji10)) = true := decide_eq_true c11
     clear c11
     obtain ⟨c12, H⟩ := gd H
     have c12b0 := eq_true c12
     have c12b1 : decide ((ji10) ≤ (x0_1.size : Int)) = true := decide_eq_true c12
     clear c12
     have H' := Aside0.mk H
     clear H
     try go_wp2_with (first | (refine gL (some 8) rfl Tryz.func82 #[.string x0_1, .int .u8 a1] ?_; (with_reducible refine (strings_IndexByte.calls x0_1 a1 t188 _ A3.out).mono ?_); rintro e w' ⟨rfl, ⟨nd, rfl⟩⟩; refine ⟨_, rfl, ?_⟩))
     (try (rw [drewN_self wr]; generalize hq_ : World.drewN wr _ = wr; have n0_ : Aside0 (Kd.R Kd.string 9 wr w.heap.size (fun _ => True) u4 x4_1) := ⟨by rw [← hq_]; exact (uR HO_4.out)⟩; have n1_ : Aside0 (Below w.heap.size w wr) := ⟨by rw [← hq_]; exact (uW HB.out)⟩; clear HO_4 HB hq_; have HO_4 := n0_; have HB := n1_; clear n0_ n1_))
     replace HO_4 := Aside0.mk (Kd.R_drew HO_4.out)
     replace HB := Aside0.mk (below_drew1 HB.out)
     refine start_ (n := 12) (S := fun w' => True) (ds := []) _ (by kernel_rfl) rfl rfl trivial (fun hHeld => ?_); refine with_tabW word_Split.tab4 word_Split.bits4 (fun HT_ HW_ => ?_)
     generalize wr.drew = w13 at HO_4 HB hHeld ⊢
     refine p1 0 (some 15) ?_
     refine p1 1 (some 16) ?_
     refine p1 2 (some 17) ?_
     refine p1 3 (some 18) ?_
     refine p1 6 (some 21) ?_
     refine p1 7 (some 22) ?_
     refine p1 8 (some 23) ?_
     refine p1 9 (some 24) ?_
     refine o1 4 (some 19) rfl rfl (fun K hK => ?_)
     refine value_ (w1 := ?_) (v := ?_) (by rfl) rfl ?_ ?_
     rotate_left 2
     ·
      go_simp
      constructor
      ·
       rfl
      ·
       rfl
     refine hK.out _ _ trivial (fun hHeld => ?_)
     clear hK K
     refine norm_ (a' := ?_) ?_ ?_
     rotate_left
     ·
      show Act.put _ (some 19) _ = _
      simp only [Act.put, List.setIfInBounds_toArray, List.set_cons_zero, List.set_cons_succ, i64_w, i32_w]
      rfl
     refine o1 5 (some 20) rfl rfl (fun K hK => ?_)
     refine Kd.R_append_step Kd.string (w0 := w) w.heap.size (by rfl) (.tmp 15) (.tmp 19) 56 9 (.string ⟨#[]⟩) 16 rfl Tryz.underlying56 info9 rfl (by decide) (by omega) u4 x4_1 (x0_1.extract 0 (t188 : Int).toNat) [.string (x0_1.extract 0 (t188 : Int).toNat)] (fun _ => True) (fun _ => False) rfl rfl ?aP (fun _ hk => hk.elim) ?aF ?aO ?aB ?aS ?aL ?_
     (case aP => exact rfl)
     (case aB => exact (uW HB.out))
     (case aF => exact (fun _ _ => trivial))
     (case aO => exact (uR HO_4.out))
     (case aS => exact (below_size (uW HB.out)))
     (case aL => have := LMc9.out; omega)
     intro v193 w14 ho hb hg hat
     rw [← Ny192.out] at ho
     replace HB := Aside0.mk (hb)
     have HO194 := Aside0.mk (ho)
     clear HO_4
     clear ho hb hg hat
     refine hK.out _ _ trivial (fun hHeld => ?_)
     clear hK K
     refine norm_ (a' := ?_) ?_ ?_
     rotate_left
     ·
      show Act.put _ (some 20) _ = _
      simp only [Act.put, List.setIfInBounds_toArray, List.set_cons_zero, List.set_cons_succ, i64_w, i32_w]
      rfl
     refine p1 10 (some 4) ?_
     refine p1 11 (some 0) ?_
     refine done_ (done_of HT_.out (by kernel_rfl)) ?_
     try go_wp2
     go_roundg k1
     case measure => have := HK1.out; omega
     case rel => exact ⟨(x0_1.extract ((ji10) : Int).toNat x0_1.size), (y192), (by first | rfl | (simp; done) | (simp only [← hji10] <;> (first | rfl | simp)) | (simp [*]; done)), H', ⟨by have := HK1.out; omega⟩, ⟨uR HO194.out⟩, ⟨uW HB.out⟩⟩
    ·
     rw [if_neg c7] at H
     exact absurd H (by simp)
def reply_words.g (t : List ByteArray) (n : Int) : List ByteArray → Nat → Option Nat
 | [], _ => none
 | x :: r, i => if (t.length : Int) = n + 1 then (if (rdOf ByteArray.empty t 0).toList = x.toList then some i else reply_words.g t n r (i + 1)) else reply_words.g t n r (i + 1)
def reply_words.out (t : List ByteArray) (W0 : Nat) : Option Nat → Ending → World → Prop
 | some i, e, w' => ∃ v1_ : Value, e = .returned (.tuple #[.int .i64 (i : Int), v1_]) ∧ Kd.Q Kd.string 9 w' W0 (fun _ => True) v1_ (t.drop 1)
 | none, e, w' => e = .panicked (wr_ 2)
theorem reply_words.rd {l2 : List ByteArray} {j : Nat} (h : j < l2.length) : rdOf ByteArray.empty l2 (j : Int) = l2[j] := by
 unfold rdOf
 rw [Int.toNat_natCast, List.getD_eq_getElem?_getD, List.getElem?_eq_getElem h]
 rfl
theorem reply_words.both (k : Nat) (a0 : ByteArray) (a1 : Int) (hn : 0 ≤ a1 ∧ a1 ≤ 100) (A2 : Option Addr) (c2 : Nat) (l2 : List ByteArray) (t : List ByteArray) (w : World) (hr2 : Kd.C Kd.string w A2 l2.length l2) (hc2 : l2.length ≤ c2) (hl2 : l2.length ≤ 100) (h : word_Split.f k a0 32 = some t) :
 Calls Tryz.prog 45 #[.string a0, .int .i64 a1, .slice A2 l2.length c2] w fun e w' => reply_words.out t w.heap.size (reply_words.g t a1 l2 0) e w' ∧ Below w.heap.size w w' := by
 have hu86 := Tryz.underlying86
 have HR2 := Aside0.mk hr2
 have HC2 := Aside0.mk hc2
 clear hr2 hc2
 have HB := Aside0.mk (Below.refl w.heap.size w)
 have A4 := Aside0.mk h
 clear h
 have HN := Aside0.mk hn
 have HL2 := Aside0.mk hl2
 have hw1 : wrap64 (a1 + 1) = a1 + 1 := by unfold wrap64; omega
 clear hn hl2
 obtain ⟨res, hres⟩ : ∃ res, reply_words.g t a1 l2 0 = res := ⟨_, rfl⟩
 rw [hres]
 have HRES := Aside0.mk hres
 clear hres
 go_enter Tryz.func45, Tryz.ntmps45
 go_wp2_with (first | (go_at_call 67; (with_reducible refine (word_Split.calls k a0 32 t _ A4.out).mono ?_); rintro e w5 ⟨v195, rfl, ho0, hb⟩; have HO196 := Aside0.mk ho0; replace HB := Aside0.mk hb; clear ho0 hb))
 go_loopg [15] l2.length (fun kq v15 w' => ∃ (j : Nat), v15 = .int .i64 (j : Int) ∧ kq = l2.length - j ∧ Aside0 (j ≤ l2.length) ∧ Aside0 (reply_words.g t a1 (l2.drop j) j = res) ∧ Aside0 (Kd.R Kd.string 9 w' w.heap.size (fun _ => True) v195 t) ∧ Aside0 (Below w.heap.size w w'))
 case atStart => exact ⟨0, rfl, rfl, ⟨Nat.zero_le _⟩, HRES, HO196, HB⟩
 case round =>
  clear HRES
  obtain ⟨j, rfl, rfl, HJ, HRES, HO_8, HB⟩ := hrel
  by_cases c6 : j < l2.length
  ·
   have c6b0 : decide ((j : Int) < (l2.length : Int)) = true := decide_eq_true (by omega)
   have c6b1 : (0 ≤ (j : Int)) = True := eq_true (by omega)
   have c6b2 : ((j : Int) < (l2.length : Int)) = True := eq_true (by omega)
   have hd : l2.drop j = l2[j] :: l2.drop (j + 1) := List.drop_eq_getElem_cons c6
   have HG := HRES.out
   rw [hd] at HG
   unfold reply_words.g at HG
   obtain ⟨ad197, e197, hx197_0⟩ := Kd.at_string HR2.out (j : Int) (by omega) (by omega)
   cases e197
   replace hx197_0 := kc HB hx197_0
   rw [reply_words.rd c6, Int.toNat_natCast] at hx197_0
   obtain ⟨Ao13, co13, eo13⟩ := Kd.R_slice HO_8.out
   subst eo13
   have hw2 : wrap64 ((j : Int) + 1) = ((j + 1 : Nat) : Int) := by have := HL2.out; unfold wrap64; omega
   by_cases c9 : (t.length : Int) = a1 + 1
   ·
    rw [if_pos c9] at HG
    have c9b0 : ((t.length : Int) == a1 + 1) = true := beq_iff_eq.mpr c9
    have c10 : 0 < t.length := by have := HN.out; omega
    have c10b1 : decide (0 < t.length) = true := decide_eq_true c10
    have q198 : ((0 : Int) < (t.length : Int)) = True := eq_true (by omega)
    have qi198 : (0 < t.length) = True := eq_true (by omega)
    obtain ⟨ad198, e198, hx198_0⟩ := Kd.at_string (Kd.R_reads' HO_8.out).2.2 0 (Int.le_refl _) (by omega)
    cases e198
    (try rw [show ((0 : Int)).toNat = 0 from rfl] at hx198_0)
    (try rw [Addr.add_zero'] at hx198_0)
    by_cases c11 : (rdOf ByteArray.empty t 0).toList = l2[j].toList
    ·
     rw [if_pos c11] at HG
     subst HG
     have c11b0 : ((rdOf ByteArray.empty t 0).toList == l2[j].toList) = true := beq_iff_eq.mpr c11
     have q14 : (1 : Int) ≤ ((t.length : Int) : Int) := by omega
     obtain ⟨i014, hi014, _, hsz14, _⟩ := info_parts info9
     have hcut14 := cut_from (P := Tryz.prog) 56 9 .i64 Tryz.underlying56 hi014 1 hsz14 (some ad198) t.length co13 1 (by omega) q14
     have hr14 := Kd.Q_drop (k := (1 : Int).toNat) (Kd.Q_of_R HO_8.out) (by omega)
     obtain ⟨A14, hA14⟩ : ∃ A1, A1 = (if co13 = (1 : Int).toNat then (some ad198) else ((some ad198) : Option Addr).map (·.add ((1 : Int).toNat * 1))) := ⟨_, rfl⟩
     obtain ⟨c14, hc14⟩ : ∃ c1, c1 = co13 - (1 : Int).toNat := ⟨_, rfl⟩
     obtain ⟨y, hy⟩ : ∃ y : List ByteArray, y = t.drop (1 : Int).toNat := ⟨_, rfl⟩
     have hy14 : y.length = t.length - (1 : Int).toNat := (by rw [hy, List.length_drop])
     rw [← hy] at hr14
     rw [← hy14, ← hA14, ← hc14] at hcut14
     replace hr14 : Kd.Q Kd.string 9 wr w.heap.size (fun _ => True) (.slice A14 y.length c14) y := (by rw [hA14, hc14, hy14]; exact hr14)
     have q15 := eq_true q14
     have HY := Aside0.mk hy
     clear hy14 hi014 hsz14 HO_8 hA14 hc14 hy q14
     go_wp2
     repeat (go_quiet (fail); try go_wp2)
     go_ret2
     exact ⟨⟨_, rfl, by rw [show t.drop 1 = y from HY.out.symm]; exact uQ <| hr14⟩, uW HB.out⟩
    ·
     rw [if_neg c11] at HG
     have c11b0 : ((rdOf ByteArray.empty t 0).toList == l2[j].toList) = false := beq_eq_false_iff_ne.mpr c11
     go_wp2
     go_roundg (l2.length - (j + 1))
     case measure => omega
     case rel => exact ⟨j + 1, by first | rfl | (rw [hw2]) | simp, rfl, ⟨c6⟩, ⟨HG⟩, HO_8, HB⟩
   ·
    rw [if_neg c9] at HG
    have c9b0 : ((t.length : Int) == a1 + 1) = false := beq_eq_false_iff_ne.mpr c9
    go_wp2
    go_roundg (l2.length - (j + 1))
    case measure => omega
    case rel => exact ⟨j + 1, by first | rfl | (rw [hw2]) | simp, rfl, ⟨c6⟩, ⟨HG⟩, HO_8, HB⟩
  ·
   have c6b0 : decide ((j : Int) < (l2.length : Int)) = false := decide_eq_false (by omega)
   have HG := HRES.out
   rw [List.drop_of_length_le (by omega)] at HG
   unfold reply_words.g at HG
   subst HG
   go_wp2
   exact ⟨rfl, rfl, HB.out⟩
abbrev ok_ : ByteArray := ⟨#[111, 107]⟩
theorem reply_words.lit1 (w : World) (s : ByteArray) : Kd.C Kd.string (w.alloc (.cells #[.string s] 9)) (some ⟨w.heap.size, 0, none⟩) 1 [s] :=
 (Kd.R_reads' (show Kd.R Kd.string 9 (w.alloc (.cells #[.string s] 9)) w.heap.size (fun _ => True) (.slice (some ⟨w.heap.size, 0, none⟩) 1 1) [s] from
  Kd.R_of_own ⟨rfl, Or.inr ⟨w.heap.size, 1, #[.string s], rfl, Nat.le_refl _, blk_new w _, Nat.le_refl _, by decide, rfl, rfl⟩⟩ (fun _ _ => trivial))).2.2
theorem reply_words.one (k : Nat) (a0 : ByteArray) (a1 : Int) (hn : 0 ≤ a1 ∧ a1 ≤ 100) (s : ByteArray) (t : List ByteArray) (w : World) (h : word_Split.f k a0 32 = some t) :
 Calls Tryz.prog 45 #[.string a0, .int .i64 a1, .slice (some ⟨w.heap.size, 0, none⟩) 1 1] (w.alloc (.cells #[.string s] 9)) fun e w' => reply_words.out t (w.alloc (.cells #[.string s] 9)).heap.size (reply_words.g t a1 [s] 0) e w' ∧ Below (w.alloc (.cells #[.string s] 9)).heap.size (w.alloc (.cells #[.string s] 9)) w' :=
 reply_words.both k a0 a1 hn _ 1 [s] t _ (reply_words.lit1 _ _) (Nat.le_refl _) (by simp) h
abbrev rows_ : ByteArray := ⟨#[114, 111, 119, 115]⟩
theorem reply_words.g_some {t : List ByteArray} {n : Int} : ∀ {l : List ByteArray} {j i : Nat}, reply_words.g t n l j = some i → (t.length : Int) = n + 1 ∧ j ≤ i ∧ i < j + l.length
 | [], j, i, h => by simp [reply_words.g] at h
 | x :: r, j, i, h => by
  unfold reply_words.g at h
  by_cases c : (t.length : Int) = n + 1
  ·
   rw [if_pos c] at h
   by_cases c2 : (rdOf ByteArray.empty t 0).toList = x.toList
   ·
    rw [if_pos c2] at h
    obtain rfl := Option.some.inj h
    exact ⟨c, Nat.le_refl _, by rw [List.length_cons]; omega⟩
   ·
    rw [if_neg c2] at h
    have := reply_words.g_some h
    exact ⟨c, by omega, by rw [List.length_cons]; omega⟩
  ·
   rw [if_neg c] at h
   exact absurd (reply_words.g_some h).1 c
theorem reply_words.rd1 (t : List ByteArray) (j : Nat) : rdOf ByteArray.empty (t.drop 1) (j : Int) = rdOf ByteArray.empty t ((j + 1 : Nat) : Int) := by
 unfold rdOf
 rw [Int.toNat_natCast, Int.toNat_natCast, List.getD_eq_getElem?_getD, List.getD_eq_getElem?_getD, List.getElem?_drop, Nat.add_comm 1 j]
def stringslite_HasPrefix.f (a0 : ByteArray) (a1 : ByteArray) : Option (Bool) := if (a0.size : Int) ≥ (a1.size : Int) then (if 0 ≤ (a1.size : Int) then (if (a1.size : Int) ≤ (a0.size : Int) then (some ((a0.extract 0 ((a1.size : Int) : Int).toNat).toList == a1.toList)) else (none)) else (none)) else (some false)
theorem stringslite_HasPrefix.calls (a0 : ByteArray) (a1 : ByteArray) (r : Bool) (w : World) (h : stringslite_HasPrefix.f a0 a1 = some r) :
 Calls Tryz.prog 127 #[.string a0, .string a1] w fun e w' => e = .returned (.bool r) ∧ Drawn0 w w' := by
 have H : (if (a0.size : Int) ≥ (a1.size : Int) then (if 0 ≤ (a1.size : Int) then (if (a1.size : Int) ≤ (a0.size : Int) then (some ((a0.extract 0 ((a1.size : Int) : Int).toNat).toList == a1.toList)) else (none)) else (none)) else (some false)) = some r := h
 clear h
 by_cases c3 : (a0.size : Int) ≥ (a1.size : Int)
 ·
  rw [if_pos c3] at H
  have c3b0 : decide ((a1.size : Int) ≤ (a0.size : Int)) = true := decide_eq_true c3
  have c3b1 : decide (a1.size ≤ a0.size) = true := decide_eq_true (Int.ofNat_le.mp c3)
  clear c3
  obtain ⟨c4, H⟩ := gd H
  have c4b0 := eq_true c4
  have c4b1 : decide (0 ≤ (a1.size : Int)) = true := decide_eq_true c4
  clear c4
  obtain ⟨c5, H⟩ := gd H
  have c5b0 := eq_true c5
  have c5b1 : decide ((a1.size : Int) ≤ (a0.size : Int)) = true := decide_eq_true c5
  clear c5
  obtain rfl := Option.some.inj H
  go_enter Tryz.func127, Tryz.ntmps127
  go_wp2
  go_ret
  exact ⟨rs_, dr_⟩
 ·
  rw [if_neg c3] at H
  have c3b0 : decide ((a1.size : Int) ≤ (a0.size : Int)) = false := decide_eq_false c3
  have c3b1 : decide (a1.size ≤ a0.size) = false := decide_eq_false (fun h => c3 (Int.ofNat_le.mpr h))
  clear c3
  obtain rfl := Option.some.inj H
  go_enter Tryz.func127, Tryz.ntmps127
  go_wp2
  go_ret
  exact ⟨rs_, dr_⟩
def stringslite_TrimPrefix.f (a0 : ByteArray) (a1 : ByteArray) : Option (ByteArray) := (stringslite_HasPrefix.f a0 a1).bind fun t195 => (if t195 = true then (if 0 ≤ (a1.size : Int) then (if (a1.size : Int) ≤ (a0.size : Int) then (some (a0.extract ((a1.size : Int) : Int).toNat a0.size)) else (none)) else (none)) else (some a0))
theorem stringslite_TrimPrefix.calls (a0 : ByteArray) (a1 : ByteArray) (r : ByteArray) (w : World) (h : stringslite_TrimPrefix.f a0 a1 = some r) :
 Calls Tryz.prog 104 #[.string a0, .string a1] w fun e w' => e = .returned (.string r) ∧ Drawn0 w w' := by
 have H : ((stringslite_HasPrefix.f a0 a1).bind fun t195 => (if t195 = true then (if 0 ≤ (a1.size : Int) then (if (a1.size : Int) ≤ (a0.size : Int) then (some (a0.extract ((a1.size : Int) : Int).toNat a0.size)) else (none)) else (none)) else (some a0))) = some r := h
 clear h
 obtain ⟨t195, A3, H⟩ := bs H
 try dsimp only at H
 by_cases c4 : t195 = true
 ·
  subst c4
  rw [if_pos rfl] at H
  obtain ⟨c5, H⟩ := gd H
  have c5b0 := eq_true c5
  have c5b1 : decide (0 ≤ (a1.size : Int)) = true := decide_eq_true c5
  clear c5
  obtain ⟨c6, H⟩ := gd H
  have c6b0 := eq_true c6
  have c6b1 : decide ((a1.size : Int) ≤ (a0.size : Int)) = true := decide_eq_true c6
  clear c6
  obtain rfl := Option.some.inj H
  go_enter Tryz.func104, Tryz.ntmps104
  go_wp2_with (first | (refine gL (some 7) rfl Tryz.func127 #[.string a0, .string a1] ?_; (with_reducible refine (stringslite_HasPrefix.calls a0 a1 true _ A3.out).mono ?_); rintro e w' ⟨rfl, ⟨nd, rfl⟩⟩; refine ⟨_, rfl, ?_⟩))
  go_ret
  exact ⟨rs_, dr_⟩
 ·
  replace c4 := Bool.eq_false_iff.mpr c4
  subst c4
  rw [if_neg (show ¬ (false = true) by decide)] at H
  obtain rfl := Option.some.inj H
  go_enter Tryz.func104, Tryz.ntmps104
  go_wp2_with (first | (refine gL (some 7) rfl Tryz.func127 #[.string a0, .string a1] ?_; (with_reducible refine (stringslite_HasPrefix.calls a0 a1 false _ A3.out).mono ?_); rintro e w' ⟨rfl, ⟨nd, rfl⟩⟩; refine ⟨_, rfl, ?_⟩))
  go_ret
  exact ⟨rs_, dr_⟩
def strings_TrimPrefix.f (a0 : ByteArray) (a1 : ByteArray) : Option (ByteArray) := (stringslite_TrimPrefix.f a0 a1).bind fun t196 => (some t196)
theorem strings_TrimPrefix.calls (a0 : ByteArray) (a1 : ByteArray) (r : ByteArray) (w : World) (h : strings_TrimPrefix.f a0 a1 = some r) :
 Calls Tryz.prog 83 #[.string a0, .string a1] w fun e w' => e = .returned (.string r) ∧ Drawn0 w w' := by
 have H : ((stringslite_TrimPrefix.f a0 a1).bind fun t196 => (some t196)) = some r := h
 clear h
 obtain ⟨t196, A3, H⟩ := bs H
 try dsimp only at H
 obtain rfl := Option.some.inj H
 go_enter Tryz.func83, Tryz.ntmps83
 go_wp2_with (first | (refine gL (some 7) rfl Tryz.func104 #[.string a0, .string a1] ?_; (with_reducible refine (stringslite_TrimPrefix.calls a0 a1 t196 _ A3.out).mono ?_); rintro e w' ⟨rfl, ⟨nd, rfl⟩⟩; refine ⟨_, rfl, ?_⟩))
 go_ret
 exact ⟨rs_, dr_⟩
def strings_Trim.f (a0 : ByteArray) (a1 : ByteArray) : Option (ByteArray) := if a0.size ≤ 9223372036854775807 ∧ a1.size < 4294967281 ∧ a1.data.toList.all (fun b => decide (b.toNat < 128)) = true then (some (⟨(Lib.trimS a0.data.toList a1.data.toList).toArray⟩ : ByteArray)) else (none)
theorem strings_Trim.calls (a0 : ByteArray) (a1 : ByteArray) (r : ByteArray) (w : World) (h : strings_Trim.f a0 a1 = some r) :
 Calls Tryz.prog 105 #[.string a0, .string a1] w fun e w' => e = .returned (.string r) ∧ Below w.heap.size w w' := by
 unfold strings_Trim.f at h
 by_cases hc : a0.size ≤ 9223372036854775807 ∧ a1.size < 4294967281 ∧ a1.data.toList.all (fun b => decide (b.toNat < 128)) = true
 ·
  rw [if_pos hc] at h
  obtain rfl := Option.some.inj h
  exact Tryz.strings_Trim_laid a0 a1 w hc.1 hc.2.1 (ascii_of_all hc.2.2)
 ·
  rw [if_neg hc] at h
  exact absurd h (by simp)
def sat_digits.f (a0 : ByteArray) : Option (Bool) := if a0.toList = ([] : List UInt8) then (some false) else (if 0 < (a0.size : Int) then (if (bt a0 0) = 48 then (if a0.toList = ([48] : List UInt8) then ((strings_Trim.f a0 (⟨#[48, 49, 50, 51, 52, 53, 54, 55, 56, 57]⟩ : ByteArray)).bind fun t197 => (some (t197.toList == ([] : List UInt8)))) else (some false)) else ((strings_Trim.f a0 (⟨#[48, 49, 50, 51, 52, 53, 54, 55, 56, 57]⟩ : ByteArray)).bind fun t198 => (some (t198.toList == ([] : List UInt8))))) else (none))
theorem sat_digits.calls (a0 : ByteArray) (r : Bool) (w : World) (h : sat_digits.f a0 = some r) :
 Calls Tryz.prog 84 #[.string a0] w fun e w' => e = .returned (.bool r) ∧ Below w.heap.size w w' := by
 have HB := Aside0.mk (Below.refl w.heap.size w)
 have H : (if a0.toList = ([] : List UInt8) then (some false) else (if 0 < (a0.size : Int) then (if (bt a0 0) = 48 then (if a0.toList = ([48] : List UInt8) then ((strings_Trim.f a0 (⟨#[48, 49, 50, 51, 52, 53, 54, 55, 56, 57]⟩ : ByteArray)).bind fun t197 => (some (t197.toList == ([] : List UInt8)))) else (some false)) else ((strings_Trim.f a0 (⟨#[48, 49, 50, 51, 52, 53, 54, 55, 56, 57]⟩ : ByteArray)).bind fun t198 => (some (t198.toList == ([] : List UInt8))))) else (none))) = some r := h
 clear h
 by_cases c2 : a0.toList = ([] : List UInt8)
 ·
  rw [if_pos c2] at H
  have c2b0 : (a0.toList == ([] : List UInt8)) = true := beq_iff_eq.mpr c2
  have c2b1 : (a0.toList != ([] : List UInt8)) = false := bne_eq_false_iff_eq.mpr c2
  clear c2
  obtain rfl := Option.some.inj H
  go_enter Tryz.func84, Tryz.ntmps84
  go_wp2
  go_ret
  exact ⟨re_, uW HB.out⟩
 ·
  rw [if_neg c2] at H
  have c2b0 : (a0.toList == ([] : List UInt8)) = false := beq_eq_false_iff_ne.mpr c2
  have c2b1 : (a0.toList != ([] : List UInt8)) = true := bne_iff_ne.mpr c2
  by_cases c3 : 0 < (a0.size : Int)
  ·
   rw [if_pos c3] at H
   have c3b0 : decide (0 < (a0.size : Int)) = true := decide_eq_true c3
   have c3b1 : decide (0 < a0.size) = true := decide_eq_true (by omega)
   clear c3
   by_cases c5 : (bt a0 0) = 48
   ·
    rw [if_pos c5] at H
    have c5b0 : ((bt a0 0) == 48) = true := beq_iff_eq.mpr c5
    have c5b1 : ((bt a0 0) != 48) = false := bne_eq_false_iff_eq.mpr c5
    clear c5
    by_cases c6 : a0.toList = ([48] : List UInt8)
    ·
     rw [if_pos c6] at H
     have c6b0 : (a0.toList == ([48] : List UInt8)) = true := beq_iff_eq.mpr c6
     have c6b1 : (a0.toList != ([48] : List UInt8)) = false := bne_eq_false_iff_eq.mpr c6
     clear c6
     obtain ⟨t197, A7, H⟩ := bs H
     try dsimp only at H
     obtain rfl := Option.some.inj H
     have p4 : 0 ≤ (0 : Int) := (by omega)
     have q4 : 0 < a0.size := (by have : (0 : Int) < (a0.size : Int) := od; omega)
     have hx4 : ∀ h : 0 < a0.size, ((a0[0]'h).toNat : Int) = bt a0 0 := bt_at a0 0
     clear p4
     have qi4 : (0 < (a0.size : Int)) = True := eq_true (od)
     replace q4 := eq_true q4
     go_enter Tryz.func84, Tryz.ntmps84
     go_wp2_with (first | (refine gL (some 15) rfl Tryz.func105 #[.string a0, .string (⟨#[48, 49, 50, 51, 52, 53, 54, 55, 56, 57]⟩ : ByteArray)] ?_; (with_reducible refine (strings_Trim.calls a0 (⟨#[48, 49, 50, 51, 52, 53, 54, 55, 56, 57]⟩ : ByteArray) t197 _ A7.out).mono ?_); rintro e w8 ⟨rfl, hb⟩; refine ⟨_, rfl, ?_⟩; replace HB := cW HB hb; (try clear hb)))
     go_ret
     exact ⟨re_, uW HB.out⟩
    ·
     rw [if_neg c6] at H
     have c6b0 : (a0.toList == ([48] : List UInt8)) = false := beq_eq_false_iff_ne.mpr c6
     have c6b1 : (a0.toList != ([48] : List UInt8)) = true := bne_iff_ne.mpr c6
     obtain rfl := Option.some.inj H
     have p4 : 0 ≤ (0 : Int) := (by omega)
     have q4 : 0 < a0.size := (by have : (0 : Int) < (a0.size : Int) := od; omega)
     have hx4 : ∀ h : 0 < a0.size, ((a0[0]'h).toNat : Int) = bt a0 0 := bt_at a0 0
     clear p4
     have qi4 : (0 < (a0.size : Int)) = True := eq_true (od)
     replace q4 := eq_true q4
     go_enter Tryz.func84, Tryz.ntmps84
     go_wp2
     go_ret
     exact ⟨re_, uW HB.out⟩
   ·
    rw [if_neg c5] at H
    have c5b0 : ((bt a0 0) == 48) = false := beq_eq_false_iff_ne.mpr c5
    have c5b1 : ((bt a0 0) != 48) = true := bne_iff_ne.mpr c5
    obtain ⟨t198, A9, H⟩ := bs H
    try dsimp only at H
    obtain rfl := Option.some.inj H
    have p4 : 0 ≤ (0 : Int) := (by omega)
    have q4 : 0 < a0.size := (by have : (0 : Int) < (a0.size : Int) := od; omega)
    have hx4 : ∀ h : 0 < a0.size, ((a0[0]'h).toNat : Int) = bt a0 0 := bt_at a0 0
    clear p4
    have qi4 : (0 < (a0.size : Int)) = True := eq_true (od)
    replace q4 := eq_true q4
    go_enter Tryz.func84, Tryz.ntmps84
    go_wp2_with (first | (refine gL (some 15) rfl Tryz.func105 #[.string a0, .string (⟨#[48, 49, 50, 51, 52, 53, 54, 55, 56, 57]⟩ : ByteArray)] ?_; (with_reducible refine (strings_Trim.calls a0 (⟨#[48, 49, 50, 51, 52, 53, 54, 55, 56, 57]⟩ : ByteArray) t198 _ A9.out).mono ?_); rintro e w10 ⟨rfl, hb⟩; refine ⟨_, rfl, ?_⟩; replace HB := cW HB hb; (try clear hb)))
    go_ret
    exact ⟨re_, uW HB.out⟩
  ·
   rw [if_neg c3] at H
   exact absurd H (by simp)
def sat_Read.f (a0 : ByteArray) : Option (Int × Int) := (strings_TrimPrefix.f a0 (⟨#[45]⟩ : ByteArray)).bind fun t => ((sat_digits.f t).bind fun d => (if d = true then (if a0.toList = ([45, 48] : List UInt8) then (some (0, 2)) else (if a0.size ≤ 140737488355328 then (some (match Lib.parseIntB 64 a0.data.toList with | .ok v => (v, 0) | _ => (0, 3))) else (none))) else (some (0, 2))))
theorem sat_Read.calls (a0 : ByteArray) (r1 : Int) (r2 : Int) (w : World) (hL : LD w) (h : sat_Read.f a0 = some (r1, r2)) :
 Calls Tryz.prog 68 #[.string a0] w fun e w' => e = .returned (.tuple #[.int .i64 r1, .int .i64 r2]) ∧ Below w.heap.size w w' := by
 unfold sat_Read.f at h
 obtain ⟨t, h1, h⟩ := Option.bind_eq_some_iff.mp h
 obtain ⟨d, h2, h⟩ := Option.bind_eq_some_iff.mp h
 have H1 := Aside0.mk h1
 have H2 := Aside0.mk h2
 have HL0 := Aside0.mk hL
 clear h1 h2 hL
 cases d with
 | false =>
  rw [if_neg (by decide)] at h
  have h := Option.some.inj h
  injection h with h3 h4
  subst h3 h4
  go_enter Tryz.func68, Tryz.ntmps68
  go_wp2_with (first | (go_at_call 83; (with_reducible refine (strings_TrimPrefix.calls _ _ t _ H1.out).mono ?_); rintro e w1 ⟨rfl, ⟨n1, rfl⟩⟩) | (go_at_call 84; (with_reducible refine (sat_digits.calls _ false _ H2.out).mono ?_); rintro e w2 ⟨rfl, hb⟩; have HB := Aside0.mk (show Below w.heap.size w w2 from Below.trans (pw_below_drewN (Below.refl w.heap.size w) _) hb); clear hb))
  go_ret2
  exact ⟨rfl, HB.out⟩
 | true =>
  rw [if_pos rfl] at h
  by_cases hz : a0.toList = ([45, 48] : List UInt8)
  ·
   rw [if_pos hz] at h
   have h := Option.some.inj h
   injection h with h3 h4
   subst h3 h4
   have c6b0 : (a0.toList == ([45, 48] : List UInt8)) = true := beq_iff_eq.mpr hz
   clear hz
   go_enter Tryz.func68, Tryz.ntmps68
   go_wp2_with (first | (go_at_call 83; (with_reducible refine (strings_TrimPrefix.calls _ _ t _ H1.out).mono ?_); rintro e w1 ⟨rfl, ⟨n1, rfl⟩⟩) | (go_at_call 84; (with_reducible refine (sat_digits.calls _ true _ H2.out).mono ?_); rintro e w2 ⟨rfl, hb⟩; have HB := Aside0.mk (show Below w.heap.size w w2 from Below.trans (pw_below_drewN (Below.refl w.heap.size w) _) hb); clear hb))
   go_ret2
   exact ⟨rfl, HB.out⟩
  ·
   rw [if_neg hz] at h
   by_cases hs : a0.size ≤ 140737488355328
   ·
    rw [if_pos hs] at h
    have h := Option.some.inj h
    have c6b0 : (a0.toList == ([45, 48] : List UInt8)) = false := beq_eq_false_iff_ne.mpr hz
    have HS := Aside0.mk hs
    clear hz hs
    cases hp : Lib.parseIntB 64 a0.data.toList with
    | ok v =>
     rw [hp] at h
     injection h with h3 h4
     subst h3 h4
     have HP := Aside0.mk hp
     clear hp
     go_enter Tryz.func68, Tryz.ntmps68
     go_wp2_with (first | (go_at_call 83; (with_reducible refine (strings_TrimPrefix.calls _ _ t _ H1.out).mono ?_); rintro e w1 ⟨rfl, ⟨n1, rfl⟩⟩) | (go_at_call 84; (with_reducible refine (sat_digits.calls _ true _ H2.out).mono ?_); rintro e w2 ⟨rfl, hb⟩; have HB := Aside0.mk (show Below w.heap.size w w2 from Below.trans (pw_below_drewN (Below.refl w.heap.size w) _) hb); clear hb) | (go_at_call 85; refine (Tryz.strconv_ParseInt_10_at64_ok a0 (by have := HS.out; omega) _ HP.out _).mono ?_; rintro e w3 ⟨rfl, hw⟩; have HB3 := Aside0.mk (show Below w.heap.size w w3 from by rcases hw with rfl | ⟨t3, rfl⟩; exact HB.out; exact bytes_below HB.out HB.out.size _ t3); clear hw))
     go_ret2
     exact ⟨rfl, HB3.out⟩
    | range =>
     rw [hp] at h
     injection h with h3 h4
     subst h3 h4
     have HP := Aside0.mk hp
     clear hp
     go_enter Tryz.func68, Tryz.ntmps68
     go_wp2_with (first | (go_at_call 83; (with_reducible refine (strings_TrimPrefix.calls _ _ t _ H1.out).mono ?_); rintro e w1 ⟨rfl, ⟨n1, rfl⟩⟩) | (go_at_call 84; (with_reducible refine (sat_digits.calls _ true _ H2.out).mono ?_); rintro e w2 ⟨rfl, hb⟩; have HB := Aside0.mk (show Below w.heap.size w w2 from Below.trans (pw_below_drewN (Below.refl w.heap.size w) _) hb); clear hb) | (go_at_call 85; (obtain ⟨tp, p, hv⟩ := (LD.below HL0.out HB.out).ErrRange); refine (Tryz.strconv_ParseInt_10_at64_range_var a0 (by have := HS.out; omega) HP.out tp p _ hv).mono ?_; rintro e w3 ⟨N, rfl, hN, hc3, hb3⟩; have HB3 := Aside0.mk (show Below w.heap.size w w3 from HB.out.trans (hb3.mono HB.out.size)); clear hN hc3 hb3 hv))
     go_ret2
     exact ⟨rfl, HB3.out⟩
    | _ =>
     rw [hp] at h
     injection h with h3 h4
     subst h3 h4
     have HP := Aside0.mk hp
     clear hp
     go_enter Tryz.func68, Tryz.ntmps68
     go_wp2_with (first | (go_at_call 83; (with_reducible refine (strings_TrimPrefix.calls _ _ t _ H1.out).mono ?_); rintro e w1 ⟨rfl, ⟨n1, rfl⟩⟩) | (go_at_call 84; (with_reducible refine (sat_digits.calls _ true _ H2.out).mono ?_); rintro e w2 ⟨rfl, hb⟩; have HB := Aside0.mk (show Below w.heap.size w w2 from Below.trans (pw_below_drewN (Below.refl w.heap.size w) _) hb); clear hb) | (go_at_call 85; (obtain ⟨tp, p, hv⟩ := (LD.below HL0.out HB.out).ErrSyntax); refine (Tryz.strconv_ParseInt_10_at64_syntax_var a0 (by have := HS.out; omega) HP.out tp p _ hv).mono ?_; rintro e w3 ⟨N, rfl, hN, hc3, hb3⟩; have HB3 := Aside0.mk (show Below w.heap.size w w3 from HB.out.trans (hb3.mono HB.out.size)); clear hN hc3 hb3 hv))
     go_ret2
     exact ⟨rfl, HB3.out⟩
   ·
    rw [if_neg hs] at h
    exact absurd h (by simp)
theorem reply_number.bad1 (s : ByteArray) (b t te : Int) (w : World) (hL : LD w) (h : sat_Read.f s = some (t, te)) (he : te ≠ 0) :
 Calls Tryz.prog 46 #[.string s, .int .i64 b] w fun x w' => x = .panicked (wr_ te) ∧ Below w.heap.size w w' := by
 go_enter Tryz.func46, Tryz.ntmps46
 go_wp2_with (first | (go_at_call 68; (with_reducible refine (sat_Read.calls s t te _ ?hl h).mono ?_); (case hl => exact hL); rintro e w5 ⟨rfl, hb⟩) | (go_at_call 51; (with_reducible refine (reply_must.bad te he _).mono ?_); rintro e w6 ⟨rfl, rfl⟩))
 exact ⟨rfl, rfl, hb⟩
theorem reply_number.bad2 (s : ByteArray) (b t : Int) (w : World) (hL : LD w) (h : sat_Read.f s = some (t, 0)) (he : t < 0 ∨ (0 < b ∧ b ≤ t)) :
 Calls Tryz.prog 46 #[.string s, .int .i64 b] w fun x w' => x = .panicked (wr_ 3) ∧ Below w.heap.size w w' := by
 by_cases c : t < 0
 ·
  have c1 : decide (t < 0) = true := decide_eq_true c
  go_enter Tryz.func46, Tryz.ntmps46
  go_wp2_with (first | (go_at_call 68; (with_reducible refine (sat_Read.calls s t 0 _ ?hl h).mono ?_); (case hl => exact hL); rintro e w5 ⟨rfl, hb⟩) | (go_at_call 51; (with_reducible refine (reply_must.good _).mono ?_); rintro e w6 ⟨rfl, rfl⟩) | (go_at_call 51; (with_reducible refine (reply_must.bad 3 (by decide) _).mono ?_); rintro e w6 ⟨rfl, rfl⟩))
  exact ⟨rfl, rfl, hb⟩
 ·
  have c0 : decide (t < 0) = false := decide_eq_false c
  have c1 : decide (0 < b) = true := decide_eq_true (by omega)
  have c2 : decide (b ≤ t) = true := decide_eq_true (by omega)
  go_enter Tryz.func46, Tryz.ntmps46
  go_wp2_with (first | (go_at_call 68; (with_reducible refine (sat_Read.calls s t 0 _ ?hl h).mono ?_); (case hl => exact hL); rintro e w5 ⟨rfl, hb⟩) | (go_at_call 51; (with_reducible refine (reply_must.good _).mono ?_); rintro e w6 ⟨rfl, rfl⟩) | (go_at_call 51; (with_reducible refine (reply_must.bad 3 (by decide) _).mono ?_); rintro e w6 ⟨rfl, rfl⟩))
  exact ⟨rfl, rfl, hb⟩
theorem reply_number.good (s : ByteArray) (b t : Int) (w : World) (hL : LD w) (h : sat_Read.f s = some (t, 0)) (h0 : 0 ≤ t) (he : 0 < b → t < b) :
 Calls Tryz.prog 46 #[.string s, .int .i64 b] w fun x w' => x = .returned (.int .i64 t) ∧ Below w.heap.size w w' := by
 have c0 : decide (t < 0) = false := decide_eq_false (by omega)
 by_cases c : 0 < b
 ·
  have c1 : decide (0 < b) = true := decide_eq_true c
  have c2 : decide (b ≤ t) = false := decide_eq_false (by omega)
  go_enter Tryz.func46, Tryz.ntmps46
  go_wp2_with (first | (go_at_call 68; (with_reducible refine (sat_Read.calls s t 0 _ ?hl h).mono ?_); (case hl => exact hL); rintro e w5 ⟨rfl, hb⟩) | (go_at_call 51; (with_reducible refine (reply_must.good _).mono ?_); rintro e w6 ⟨rfl, rfl⟩))
  go_ret
  exact ⟨rfl, hb⟩
 ·
  have c1 : decide (0 < b) = false := decide_eq_false c
  go_enter Tryz.func46, Tryz.ntmps46
  go_wp2_with (first | (go_at_call 68; (with_reducible refine (sat_Read.calls s t 0 _ ?hl h).mono ?_); (case hl => exact hL); rintro e w5 ⟨rfl, hb⟩) | (go_at_call 51; (with_reducible refine (reply_must.good _).mono ?_); rintro e w6 ⟨rfl, rfl⟩))
  go_ret
  exact ⟨rfl, hb⟩
theorem reply_ReadStored.catch (p q : Nat) (er y : Int) (x0 : Value) (w : World) (hp : w.heap[p]? = some (.cells #[x0] 2 (0, 0))) (hq : w.heap[q]? = some (.cells #[.int .i64 y] 22 (0, 0))) :
 CallsD Tryz.prog 43 #[.pointer (some ⟨p, 0, none⟩), .pointer (some ⟨q, 0, none⟩)] (.panicking (wr_ er)) w fun e u' w' =>
  e = .returned (.tuple #[]) ∧ u' = .panicking [{ v := .iface 86 (.agg #[.int .i64 er]), recovered := true }] ∧ ∃ w1, Below w.heap.size w w1 ∧ w' = ((w1.setCell ⟨p, 0, none⟩ (.int .i64 0)).setCell ⟨q, 0, none⟩ (.int .i64 er)) := by
 have hne : p ≠ q := blk_ne hp hq (by decide)
 have hu33 := Tryz.underlying33
 have hu36 := Tryz.underlying36
 refine callsD_of_wpS Tryz.func43 rfl fun c₀ cs hu => ?_
 apply wpS_seq
 apply wpS_region
 simp [wpOpsS, go_sem, recoverD, hu, Tryz.ntmps43, Exit.thenS]
 apply wpS_seq
 apply wpS_region
 simp [wpOpsS, go_sem, Exit.thenS]
 refine wpS_cond (t := true) (by simp [Act.eval, Array.replicate]) ?_
 simp only [if_true]
 refine wpS_of_wp ?_
 go_wp2_with (first | (go_at_call 44; (with_reducible refine (reply_caught.calls er _).mono ?_); rintro e w5 ⟨rfl, hb⟩; have hp5 := blk_below hp hb; have hq5 := blk_below hq hb; have hc0 := (blk_cell hp5 0).trans rfl; have hz0 := blk_frozen hp5 0; have hcq := (blk_cell (blk_far hq5 (p := ⟨p, 0, none⟩) hne.symm (.int .i64 0)) 0).trans rfl; have hzq := blk_frozen (blk_far hq5 (p := ⟨p, 0, none⟩) hne.symm (.int .i64 0)) 0))
 cases c₀
 simp_all [bodyPostS, results, Tryz.results43, Exit.thenS]
 exact ⟨w5, hb, rfl⟩
theorem reply_ReadStored.idle (p q : Nat) (w : World) : CallsD Tryz.prog 43 #[.pointer (some ⟨p, 0, none⟩), .pointer (some ⟨q, 0, none⟩)] .returning w fun e u' w' => e = .returned (.tuple #[]) ∧ u' = .returning ∧ w' = w := by
 refine callsD_of_wpS Tryz.func43 rfl fun c₀ cs hu => ?_
 apply wpS_seq
 apply wpS_region
 simp [wpOpsS, go_sem, recoverD, hu, Tryz.ntmps43, Exit.thenS]
 apply wpS_seq
 apply wpS_region
 simp [wpOpsS, go_sem, Exit.thenS]
 refine wpS_cond (t := false) (by simp [Act.eval, Array.replicate]) ?_
 simp only [Bool.false_eq_true, if_false]
 refine wpS_of_wp (wp_skip ?_)
 cases c₀
 simp_all [bodyPostS, results, Tryz.results43, Exit.thenS]
theorem reply_ReadStored.out {w W : World} {p q : Nat} {er y : Int} {x0 t0 t1 t4 t5 t6 t7 t8 t9 t10 t11 t12 t13 t14 t15 t16 : Value} (hp : W.heap[p]? = some (.cells #[x0] 2 (0, 0))) (hq : W.heap[q]? = some (.cells #[.int .i64 y] 22 (0, 0))) (hb : Below w.heap.size w W) (gp : w.heap.size ≤ p) (gq : w.heap.size ≤ q) :
 bodyPostD Tryz.prog Tryz.f22 (fun e w' => e = .returned (.tuple #[.int .i64 0, .int .i64 er]) ∧ Below w.heap.size w w') (.panic (wr_ er)) { tmps := #[t0, t1, .pointer (some ⟨p, 0, none⟩), .pointer (some ⟨q, 0, none⟩), t4, t5, t6, t7, t8, t9, t10, t11, t12, t13, t14, t15, t16], defers := [{ target := .fn (.func 43) #[.pointer (some ⟨p, 0, none⟩), .pointer (some ⟨q, 0, none⟩)], args := #[] }] } W := by
 have hne : p ≠ q := blk_ne hp hq (by decide)
 refine leaves_cons (f := 43) (args := #[.pointer (some ⟨p, 0, none⟩), .pointer (some ⟨q, 0, none⟩)]) (by simp) (by simp [go_sem]) ?_
 refine (reply_ReadStored.catch p q er _ _ _ hp hq).mono ?_
 rintro e u' w'' ⟨rfl, rfl, w6, hb6, rfl⟩
 have cp0 := (blk_cell (blk_far (blk_set (blk_below hp hb6) 0 (.int .i64 0)) (p := ⟨q, 0, none⟩) hne (.int .i64 er)) 0).trans rfl
 have cq := (blk_cell (blk_set (blk_far (blk_below hq hb6) (p := ⟨p, 0, none⟩) hne.symm (.int .i64 0)) 0 (.int .i64 er)) 0).trans rfl
 have HB2 := (below_set (j := 0) (v := .int .i64 er) (below_set (j := 0) (v := .int .i64 0) (below_step hb hb6) gp) gq)
 simp [Leaves, settle, results, Tryz.results22, go_sem, cp0, cq, HB2]
def reply_ReadStored.f (k : Nat) (a0 : ByteArray) : Option (Int × Int) := (word_Split.f k a0 32).bind fun t => (if (reply_words.g t 1 [ok_] 0).isSome = true then ((sat_Read.f (rdOf ByteArray.empty t 1)).bind fun b => (if b.2 = 0 then (if b.1 < 0 then (some (0, 3)) else (some (b.1, 0))) else (some (0, b.2)))) else (some (0, 2)))
theorem reply_ReadStored.mono : ∀ a0 k, LeO (reply_ReadStored.f k a0) (reply_ReadStored.f (k + 1) a0) := by
 intro a0 k
 unfold reply_ReadStored.f
 exact lo
instance reply_ReadStored.mI {a0 k} : LeC (reply_ReadStored.f k a0) (reply_ReadStored.f (k + 1) a0) := ⟨reply_ReadStored.mono _ _⟩
theorem reply_ReadStored.calls (k : Nat) (a0 : ByteArray) (r1 : Int) (r2 : Int) (w : World) (hL : LD w) (h : reply_ReadStored.f k a0 = some (r1, r2)) :
 Calls Tryz.prog 22 #[.string a0] w fun e w' => e = .returned (.tuple #[.int .i64 r1, .int .i64 r2]) ∧ Below w.heap.size w w' := by
 unfold reply_ReadStored.f at h
 obtain ⟨t, hs, h⟩ := Option.bind_eq_some_iff.mp h
 have hmf : ∀ (fn : Fn) (first cap : Array Value) (w : World), (Instr.makeFunc fn first cap).run Tryz.prog w = .ok (.func fn first cap) w := fun _ _ _ _ => rfl
 have hu56 := Tryz.underlying56
 have hu33 := Tryz.underlying33
 have hu36 := Tryz.underlying36
 have HB := Aside0.mk (Below.refl w.heap.size w)
 have HH := Aside0.mk h
 clear h
 go_enter_defers Tryz.func22, Tryz.ntmps22
 go_wp2_with (first | ((with_reducible refine gate_dst (N := 2) rfl ?_); refine bx (N := 2) #[.int .i64 0] 2 ?_; intro p hp w1 hk1 hb1; have BP := Aside0.mk hk1; have GP := Aside0.mk (show w.heap.size ≤ p by rw [hp]; exact HB.out.size); replace HB := Aside0.mk (below_step HB.out hb1); clear hk1 hp hb1) | ((with_reducible refine gate_dst (N := 3) rfl ?_); refine bx (N := 3) #[.int .i64 0] 22 ?_; intro q hq w2 hk1 hb1; have BQ := Aside0.mk hk1; have GQ := Aside0.mk (show w.heap.size ≤ q by rw [hq]; exact HB.out.size); replace BP := Aside0.mk (blk_below BP.out hb1); replace HB := Aside0.mk (below_step HB.out hb1); clear hk1 hq hb1))
 cases hg : reply_words.g t 1 [ok_] 0 with
 | none =>
  have h := HH.out
  clear HH
  rw [hg, if_neg (by simp)] at h
  injection h with h
  injection h with h1 h2
  subst h1 h2
  refine (reply_words.one k a0 1 (by decide) _ t _ hs).mono ?_
  rintro e w5 ⟨ho, hb⟩
  rw [hg] at ho
  have ho2 : e = .panicked (wr_ 2) := ho
  subst ho2
  have hb' := below_step (Below.refl _ _) (below_step (below_alloc (Below.refl _ _) _) hb)
  replace BP := Aside0.mk (blk_below BP.out hb'); replace BQ := Aside0.mk (blk_below BQ.out hb'); replace HB := Aside0.mk (below_step HB.out hb')
  go_wp2_with fail
  exact reply_ReadStored.out BP.out BQ.out HB.out GP.out GQ.out
 | some i =>
  have h := HH.out
  clear HH
  rw [hg, if_pos (show (some i).isSome = true from rfl)] at h
  have HH := Aside0.mk h
  clear h
  refine (reply_words.one k a0 1 (by decide) _ t _ hs).mono ?_
  rintro e w5 ⟨ho, hb⟩
  rw [hg] at ho
  obtain ⟨v1_, rfl, hq⟩ := ho
  have hb' := below_step (Below.refl _ _) (below_step (below_alloc (Below.refl _ _) _) hb)
  replace BP := Aside0.mk (blk_below BP.out hb'); replace BQ := Aside0.mk (blk_below BQ.out hb'); replace HB := Aside0.mk (below_step HB.out hb')
  have hlt := (reply_words.g_some hg).1
  obtain ⟨y, hy⟩ : ∃ y : List ByteArray, y = t.drop 1 := ⟨_, rfl⟩
  have hyl : (y.length : Int) = 1 := by rw [hy, List.length_drop]; omega
  rw [← hy] at hq
  obtain ⟨A5, c5, e5, _⟩ := Kd.Q_slice hq
  subst e5
  have HQ := Aside0.mk hq
  have HY := Aside0.mk hy
  have q0 : ((0 : Int) < (y.length : Int)) = True := eq_true (by omega)
  have qi0 : (0 < y.length) = True := eq_true (by omega)
  clear hq hb hb' hy
  have hne := blk_ne BP.out BQ.out (by decide)
  obtain ⟨ad10_, ea10_, hx10_⟩ := Kd.at_string (Kd.Q_reads' HQ.out).2.2 0 (by decide) (by omega)
  cases ea10_
  (try rw [show ((0 : Int)).toNat = 0 from rfl] at hx10_)
  (try rw [Addr.add_zero'] at hx10_)
  rw [HY.out, show rdOf ByteArray.empty (t.drop 1) 0 = rdOf ByteArray.empty t 1 from reply_words.rd1 t 0] at hx10_
  go_wp2_with fail
  have h := HH.out
  clear HH
  obtain ⟨⟨n0, er⟩, hA, h⟩ := Option.bind_eq_some_iff.mp h
  dsimp only at h
  by_cases c : er = 0
  case neg =>
   rw [if_neg c] at h
   injection h with h
   injection h with h1 h2
   subst h1 h2
   refine (reply_number.bad1 (rdOf ByteArray.empty t 1) 0 n0 er _ (LD.below hL HB.out) hA c).mono ?_
   rintro e w20 ⟨rfl, hb'⟩
   replace BP := Aside0.mk (blk_below BP.out hb'); replace BQ := Aside0.mk (blk_below BQ.out hb'); replace HQ := Aside0.mk (Kd.Q_below HQ.out hb'); replace HB := Aside0.mk (below_step HB.out hb')
   go_wp2_with fail
   exact reply_ReadStored.out BP.out BQ.out HB.out GP.out GQ.out
  rw [if_pos c] at h
  subst c
  by_cases c : n0 < 0
  case pos =>
   rw [if_pos c] at h
   injection h with h
   injection h with h1 h2
   subst h1 h2
   refine (reply_number.bad2 (rdOf ByteArray.empty t 1) 0 n0 _ (LD.below hL HB.out) hA (Or.inl c)).mono ?_
   rintro e w20 ⟨rfl, hb'⟩
   replace BP := Aside0.mk (blk_below BP.out hb'); replace BQ := Aside0.mk (blk_below BQ.out hb'); replace HQ := Aside0.mk (Kd.Q_below HQ.out hb'); replace HB := Aside0.mk (below_step HB.out hb')
   go_wp2_with fail
   exact reply_ReadStored.out BP.out BQ.out HB.out GP.out GQ.out
  rw [if_neg c] at h
  have hn6 := c
  clear c
  have HH := Aside0.mk h
  clear h
  refine (reply_number.good (rdOf ByteArray.empty t 1) 0 n0 _ (LD.below hL HB.out) hA (by omega) (by omega)).mono ?_
  rintro e w20 ⟨rfl, hb'⟩
  replace BP := Aside0.mk (blk_below BP.out hb'); replace BQ := Aside0.mk (blk_below BQ.out hb'); replace HQ := Aside0.mk (Kd.Q_below HQ.out hb'); replace HB := Aside0.mk (below_step HB.out hb')
  clear hb' hA
  have hc1_ := (blk_cell BP.out 0).trans rfl; have hz1_ := blk_frozen BP.out 0; have HN_ := Aside0.mk (show (World.setCell _ ⟨p, 0, none⟩ (.int .i64 n0)).heap[p]? = some (.cells #[.int .i64 n0] 2 (0, 0)) from blk_set BP.out 0 (.int .i64 n0)); replace HQ := Aside0.mk (Kd.Q_set HQ.out BP.out (by decide) 0 (.int .i64 n0)); replace BQ := Aside0.mk (blk_far BQ.out (p := ⟨p, 0, none⟩) (hne.symm) (.int .i64 n0)); replace BP := HN_; clear HN_; replace HB := Aside0.mk (below_set (j := 0) (v := .int .i64 n0) HB.out GP.out)
  have hc2_ := (blk_cell BQ.out 0).trans rfl; have hz2_ := blk_frozen BQ.out 0; have HN_ := Aside0.mk (show (World.setCell _ ⟨q, 0, none⟩ (.int .i64 0)).heap[q]? = some (.cells #[.int .i64 0] 22 (0, 0)) from blk_set BQ.out 0 (.int .i64 0)); replace HQ := Aside0.mk (Kd.Q_set HQ.out BQ.out (by decide) 0 (.int .i64 0)); replace BP := Aside0.mk (blk_far BP.out (p := ⟨q, 0, none⟩) (hne) (.int .i64 0)); replace BQ := HN_; clear HN_; replace HB := Aside0.mk (below_set (j := 0) (v := .int .i64 0) HB.out GQ.out)
  have h := HH.out
  injection h with h
  injection h with h1 h2
  subst h1 h2
  go_wp2_with fail
  refine leaves_cons (f := 43) (args := #[.pointer (some ⟨p, 0, none⟩), .pointer (some ⟨q, 0, none⟩)]) (by simp) (by simp [go_sem]) ?_
  refine (reply_ReadStored.idle p q _).mono ?_
  rintro e u' w'' ⟨rfl, rfl, rfl⟩
  have cp0 := (blk_cell BP.out 0).trans rfl
  have cq := (blk_cell BQ.out 0).trans rfl
  simp [Leaves, settle, results, Tryz.results22, go_sem, cp0, cq, HB.out]
def strings_Cut.f (a0 : ByteArray) (a1 : ByteArray) : Option (ByteArray × ByteArray × Bool) := if a0.size < 4294967281 then (some ((⟨(Lib.cut a0.data.toList a1.data.toList).1.toArray⟩ : ByteArray), (⟨(Lib.cut a0.data.toList a1.data.toList).2.1.toArray⟩ : ByteArray), (Lib.cut a0.data.toList a1.data.toList).2.2)) else (none)
theorem strings_Cut.calls (a0 : ByteArray) (a1 : ByteArray) (r1 : ByteArray) (r2 : ByteArray) (r3 : Bool) (w : World) (hL : LD w) (h : strings_Cut.f a0 a1 = some (r1, r2, r3)) :
 Calls Tryz.prog 140 #[.string a0, .string a1] w fun e w' => e = .returned (.tuple #[.string r1, .string r2, .bool r3]) ∧ Drawn0 w w' := by
 unfold strings_Cut.f at h
 by_cases hc : a0.size < 4294967281
 ·
  rw [if_pos hc] at h
  injection h with h
  injection h with h1 h
  injection h with h2 h3
  subst h1 h2 h3
  obtain ⟨m, hm⟩ := hL.maxLen
  exact (Tryz.strings_Cut a0 a1 m w hc hm).mono fun e w' hh => ⟨hh.1, ⟨hh.2⟩⟩
 ·
  rw [if_neg hc] at h
  exact absurd h (by simp)
def api_Tag_179.Fn (g : Nat) (lb : Array Value) (p : S113 → Bool) (l : List (S113)) (w : World) : Prop :=
 ∀ (W : World) (x : S113), x ∈ l → Below w.heap.size w W → Calls Tryz.prog g (#[.agg #[.string x.f0, .string x.f1]] ++ lb) W fun e w' => e = .returned (.bool (p x)) ∧ Below W.heap.size W w'
def api_Tag_179.idx (p : S113 → Bool) : List (S113) → Nat → Int
 | [], _ => -1
 | x :: l, i => if p x = true then (i : Int) else api_Tag_179.idx p l (i + 1)
theorem api_Tag_179.idx_miss {p : S113 → Bool} : ∀ {l : List (S113)} {i : Nat}, api_Tag_179.idx p l i = -1 ∨ (i : Int) ≤ api_Tag_179.idx p l i
 | [], _ => .inl rfl
 | x :: l, i => by
  unfold api_Tag_179.idx
  split
  ·
   exact .inr (Int.le_refl _)
  ·
   rcases api_Tag_179.idx_miss (p := p) (l := l) (i := i + 1) with h | h
   ·
    exact .inl h
   ·
    exact .inr (by omega)
theorem api_Tag_179.idx_any (p : S113 → Bool) : ∀ (l : List (S113)) (i : Nat), decide (0 ≤ api_Tag_179.idx p l i) = l.any p
 | [], _ => rfl
 | x :: l, i => by
  unfold api_Tag_179.idx
  by_cases h : p x = true
  ·
   rw [if_pos h, List.any_cons, h, Bool.true_or]
   exact decide_eq_true (by omega)
  ·
   rw [if_neg h, api_Tag_179.idx_any p l (i + 1), List.any_cons, Bool.eq_false_iff.2 h, Bool.false_or]
set_option maxHeartbeats 2000000 in
theorem api_Tag_179.calls (g : Nat) (lb : Array Value) (eg : ∀ args w, (callFunc g args).run Tryz.prog w = .ok (.enter g args) w) (p : S113 → Bool) (A0 : Option Addr) (c0 : Nat) (l0 : List (S113)) (w : World) (hr0 : Kd.C k113 w A0 l0.length l0) (hp : api_Tag_179.Fn g lb p l0 w) :
 Calls Tryz.prog 179 #[.slice A0 l0.length c0, .func (.func g) #[] lb] w fun e w' => e = .returned (.int .i64 (api_Tag_179.idx p l0 0)) ∧ Below w.heap.size w w' := by
 have hu113 := Tryz.underlying113
 have HR0 := Aside0.mk hr0
 have HP := Aside0.mk hp
 have HL := Aside0.mk hr0.2.1
 clear hr0 hp
 go_enter Tryz.func179, Tryz.ntmps179
 go_wp2
 go_loopg [5, 8] l0.length (fun gg _ v8 wr => ∃ x : Int, v8 = .int .i64 x ∧ Aside0 (0 ≤ x) ∧ Aside0 (x ≤ (l0.length : Int)) ∧ Aside0 ((l0.length : Int) - x ≤ gg) ∧ Aside0 (api_Tag_179.idx p l0 0 = api_Tag_179.idx p (l0.drop x.toNat) x.toNat) ∧ Aside0 (Below w.heap.size w wr))
 case atStart => exact ⟨0, rfl, ⟨by omega⟩, ⟨by omega⟩, ⟨by omega⟩, ⟨rfl⟩, ⟨Below.refl _ _⟩⟩
 case round =>
  obtain ⟨x, rfl, H0, H1, HG, HI, HB⟩ := hrel
  by_cases hlt : x < (l0.length : Int)
  ·
   have p101 : 0 ≤ x := H0.out
   obtain ⟨ad101, e101, hx101_0, hx101_1⟩ := at_T113 HR0.out x p101 hlt
   cases e101
   have hy101_0 := kc HB hx101_0
   clear hx101_0
   have hy101_1 := kc HB hx101_1
   clear hx101_1
   have HN : Aside0 (x.toNat < l0.length) := ⟨by omega⟩
   have hget : rd_T113 l0 x = l0[x.toNat]'HN.out := by
    show l0.getD x.toNat _ = _
    rw [List.getD_eq_getElem?_getD, List.getElem?_eq_getElem HN.out, Option.getD_some]
   have hcall := HP.out wr (rd_T113 l0 x) (by rw [hget]; exact List.getElem_mem HN.out) HB.out
   have HGE := Aside0.mk hget
   clear hget
   have c1b0 : decide (x < (l0.length : Int)) = true := decide_eq_true hlt
   have pi101 : (0 ≤ (x : Int)) = True := eq_true p101
   have qi101 : (x < (l0.length : Int)) = True := eq_true hlt
   have HLT := Aside0.mk hlt
   clear hlt p101
   cases hq : p (rd_T113 l0 x) with
   | true =>
    rw [hq] at hcall
    have HQ := Aside0.mk hq
    clear hq
    go_wp2_with (go_at_fn g; refine hcall.mono ?_; rintro e w' ⟨rfl, hb'⟩)
    go_ret
    refine ⟨?_, HB.out.trans (hb'.mono HB.out.size)⟩
    rw [HI.out, List.drop_eq_getElem_cons HN.out]
    unfold api_Tag_179.idx
    rw [if_pos (by rw [← HGE.out]; exact HQ.out), Int.toNat_of_nonneg H0.out]
    rfl
   | false =>
    rw [hq] at hcall
    have HQ := Aside0.mk hq
    clear hq
    go_wp2_with (go_at_fn g; refine hcall.mono ?_; rintro e w' ⟨rfl, hb'⟩)
    have hw : wrap64 (x + 1) = x + 1 := by have := HLT.out; have := HL.out; have := H0.out; unfold wrap64; omega
    (try rw [hw])
    clear hw
    go_roundg (l0.length - (x.toNat + 1))
    case measure => have := HLT.out; have := HG.out; have := H0.out; omega
    case rel =>
     refine ⟨x + 1, by first | rfl | (have := HLT.out; have := HL.out; have := H0.out; simp; unfold wrap64; omega), ⟨by have := H0.out; omega⟩, ⟨by have := HLT.out; omega⟩, ⟨by have := HLT.out; have := H0.out; omega⟩, ⟨?_⟩, ⟨HB.out.trans (hb'.mono HB.out.size)⟩⟩
     rw [HI.out, List.drop_eq_getElem_cons HN.out, show (x + 1).toNat = x.toNat + 1 from by have := H0.out; omega]
     conv => lhs; unfold api_Tag_179.idx
     rw [if_neg (by rw [← HGE.out, HQ.out]; simp)]
  ·
   have hx : x = (l0.length : Int) := by have := H1.out; omega
   have c1b0 : decide (x < (l0.length : Int)) = false := decide_eq_false hlt
   clear hlt
   have HX := Aside0.mk hx
   clear hx
   go_wp2
   go_ret
   refine ⟨?_, HB.out⟩
   rw [HI.out, HX.out, Int.toNat_natCast, List.drop_of_length_le (Nat.le_refl _)]
   rfl
set_option maxHeartbeats 2000000 in
theorem api_Tag_163.calls (g : Nat) (lb : Array Value) (eg : ∀ args w, (callFunc g args).run Tryz.prog w = .ok (.enter g args) w) (p : S113 → Bool) (A0 : Option Addr) (c0 : Nat) (l0 : List (S113)) (w : World) (hr0 : Kd.C k113 w A0 l0.length l0) (hp : api_Tag_179.Fn g lb p l0 w) :
 Calls Tryz.prog 163 #[.slice A0 l0.length c0, .func (.func g) #[] lb] w fun e w' => e = .returned (.bool (l0.any p)) ∧ Below w.heap.size w w' := by
 have hcall := fun W => api_Tag_179.calls g lb eg p A0 c0 l0 W
 rw [← api_Tag_179.idx_any p l0 0]
 generalize api_Tag_179.idx p l0 0 = r at hcall ⊢
 go_enter Tryz.func163, Tryz.ntmps163
 go_wp2_with (go_at_call 179; refine (hcall _ hr0 hp).mono ?_; rintro e w' ⟨rfl, hb'⟩)
 go_ret
 exact ⟨rfl, hb'⟩
def api_Tag_166.f (l0 : List (S113)) : Option ((List (S113))) := if l0.length < 4398046511104 then (some l0) else (none)
theorem api_Tag_166.calls (A0 : Option Addr) (c0 : Nat) (l0 : List (S113)) (r : List (S113)) (w : World) (hr0 : Kd.C k113 w A0 l0.length l0) (hc0 : l0.length ≤ c0) (h : api_Tag_166.f l0 = some r) :
 Calls Tryz.prog 166 #[.slice A0 l0.length c0] w fun e w' => ∃ v0_ : Value, e = .returned (v0_) ∧ Kd.R k113 113 w' w.heap.size (fun _ => True) v0_ r ∧ Below w.heap.size w w' := by
 unfold api_Tag_166.f at h
 by_cases hl : l0.length < 4398046511104
 ·
  rw [if_pos hl] at h
  obtain rfl := Option.some.inj h
  have HL := Aside0.mk hl
  clear h hl
  have HR0 := Aside0.mk hr0
  clear hr0 hc0
  cases A0 with
  | none =>
   have e : l0 = [] := by
    have h2 := HR0.out.2.2
    cases l0 with
    | nil => rfl
    | cons x l => obtain ⟨_, h3, _⟩ := h2 (by simp); cases h3
   subst e
   have heq : ∀ (n c : Nat) (W : World), (binOp .eql 92 (.slice none n c) (.slice none 0 0)).run Tryz.prog W = .ok (.bool true) W := fun n c W => Lib.run_eql_slice_nil W 92 113 none n c 0 0 Tryz.underlying92
   go_enter Tryz.func166, Tryz.ntmps166
   go_wp2
   go_ret
   exact ⟨_, rfl, Kd.R_nil _ _ _ _ _, Below.refl _ _⟩
  | some a =>
   have HB := Aside0.mk (Below.refl w.heap.size w)
   have heq : ∀ (n c : Nat) (W : World), (binOp .eql 92 (.slice (some a) n c) (.slice none 0 0)).run Tryz.prog W = .ok (.bool false) W := fun n c W => Lib.run_eql_slice_nil W 92 113 (some a) n c 0 0 Tryz.underlying92
   go_enter Tryz.func166, Tryz.ntmps166
   go_wp2_with (first | ((with_reducible refine gate_dst (N := 5) rfl ?_); refine Kd.R_lit k113 _ 113 ?hg (N := 5) ?hd (xs := ([] : List (S113))) (inner := []) (ok := fun _ => True) (okp := fun _ => True) ?hr ?hp (fun _ hk => hk) trivial (Below.refl _ _) (Nat.le_refl _) (by simp) ?_; (case hd => rfl); (case hg => rfl); (case hr => first | (go_simp; done) | (go_simp; rfl)); (case hp => exact (Reps.none _ _)); intro v129 w7 ho8 hb hg_ hnew_; clear hg_ hnew_; have n0_ := Aside0.mk (Kd.R_lower ho8 (Nat.le_refl _)); have n1_ := Aside0.mk hb; clear HB ho8 hb; have HB := n1_; have HO130 := n0_; clear n0_ n1_) | ((with_reducible refine gate_builtin (b := .append) (xs := #[.tmp 5, .tmp 6]) rfl ?_); at_builtin; refine Kd.R_append_rows k113 (w0 := w) w.heap.size rfl (.tmp 5) (.tmp 6) 92 113 (.agg #[(.string ⟨#[]⟩), (.string ⟨#[]⟩)]) 32 rfl Tryz.underlying92 info113 rfl (by decide) (by decide) v129 [] l0 _ _ _ (fun _ => True) (fun _ => False) rfl rfl ?aO ?aR (fun _ _ h => h) (fun _ h => h.elim) ?aF ?aB ?aS ?aL ?_; (case aR => exact (Kd.C_below HR0.out HB.out)); (case aB => exact HB.out); (case aF => exact (fun _ _ => trivial)); (case aO => exact HO130.out); (case aS => exact (below_size HB.out)); (case aL => have := HL.out; simp only [List.length_nil, Nat.zero_add]; omega); intro v132 w9 ho hb hg hat; clear hg hat; have n0_ := Aside0.mk hb; have n1_ := Aside0.mk ho; clear HB HO130; have HB := n0_; have HO133 := n1_; clear n0_ n1_ ho hb))
   go_ret
   exact ⟨_, rfl, HO133.out, HB.out⟩
 ·
  rw [if_neg hl] at h
  exact absurd h (by simp)
def bits_Len.f (a0 : Int) : Option (Int) := if 0 ≤ a0 ∧ a0 ≤ 18446744073709551615 then (some ((Lib.bitLen a0.toNat : Nat) : Int)) else (none)
theorem bits_Len.calls (a0 : Int) (r : Int) (w : World) (h : bits_Len.f a0 = some r) :
 Calls Tryz.prog 183 #[.int .u64 a0] w fun e w' => e = .returned (.int .i64 r) ∧ Drawn0 w w' := by
 unfold bits_Len.f at h
 by_cases hc : 0 ≤ a0 ∧ a0 ≤ 18446744073709551615
 ·
  rw [if_pos hc] at h
  obtain rfl := Option.some.inj h
  exact (Tryz.bits_Len a0 w hc.1 hc.2).mono fun e w' hh => ⟨hh.1, hh.2 ▸ Drawn0.refl _⟩
 ·
  rw [if_neg hc] at h
  exact absurd h (by simp)
def strings_Compare.f (a0 : ByteArray) (a1 : ByteArray) : Option (Int) := some (Lib.compareBytes a0.data.toList a1.data.toList)
theorem strings_Compare.calls (a0 : ByteArray) (a1 : ByteArray) (r : Int) (w : World) (h : strings_Compare.f a0 a1 = some r) :
 Calls Tryz.prog 145 #[.string a0, .string a1] w fun e w' => e = .returned (.int .i64 r) ∧ Drawn0 w w' := by
 obtain rfl := Option.some.inj h
 exact (Tryz.strings_Compare a0 a1 w).mono fun e w' hh => ⟨hh.1, hh.2 ▸ Drawn0.refl _⟩
def tag_order.f (a0_0 : ByteArray) (a0_1 : ByteArray) (a1_0 : ByteArray) (a1_1 : ByteArray) : Option (Int) := (strings_Compare.f a0_0 a1_0).bind fun t201 => (some t201)
theorem tag_order.calls (a0_0 : ByteArray) (a0_1 : ByteArray) (a1_0 : ByteArray) (a1_1 : ByteArray) (r : Int) (w : World) (h : tag_order.f a0_0 a0_1 a1_0 a1_1 = some r) :
 Calls Tryz.prog 168 #[.agg #[.string a0_0, .string a0_1], .agg #[.string a1_0, .string a1_1]] w fun e w' => e = .returned (.int .i64 r) ∧ Below w.heap.size w w' := by
 have hu113 := Tryz.underlying113
 have HB := Aside0.mk (Below.refl w.heap.size w)
 have H : ((strings_Compare.f a0_0 a1_0).bind fun t201 => (some t201)) = some r := h
 clear h
 obtain ⟨t201, A3, H⟩ := bs H
 try dsimp only at H
 obtain rfl := Option.some.inj H
 go_enter Tryz.func168, Tryz.ntmps168
 go_wp2_with (first | ((with_reducible refine gate_dst (N := 2) rfl ?_); refine bx (N := 2) #[.string a0_0, .string a0_1] 113 ?_; intro gb199 hg w4 hbox hb; have BK199 := Aside0.mk (hbox); have GW199 := gw hg (uW HB.out); have GE199 := GW199; replace HB := cW HB hb; clear hb hbox hg) | ((with_reducible refine gate_dst (N := 3) rfl ?_); refine bx (N := 3) #[.string a1_0, .string a1_1] 113 ?_; intro gb200 hg w5 hbox hb; have BK200 := Aside0.mk (hbox); have GW200 := gw hg bl; have GE200 := GW200; replace HB := Aside0.mk (below_step bl hb); have NB199_200 := nl BK199 hg; have NB200_199 := nr BK199 hg; replace BK199 := cB BK199 hb; clear hb hbox hg; have hnb6 := NB199_200.out; have hnc6 := NB200_199.out; obtain ⟨hcz7_0, hcz7_1, hfz7_0, hfz7_1⟩ := z2 BK199; obtain ⟨hcz8_0, hcz8_1, hfz8_0, hfz8_1⟩ := z2 BK200) | (refine gL (some 9) rfl Tryz.func145 #[.string a0_0, .string a1_0] ?_; (with_reducible refine (strings_Compare.calls a0_0 a1_0 t201 _ A3.out).mono ?_); rintro e w' ⟨rfl, ⟨nd, rfl⟩⟩; refine ⟨_, rfl, ?_⟩))
 go_ret
 exact ⟨re_, bl⟩
def word_made.f (a0 : ByteArray) (a1 : ByteArray) : Option (Bool) := if a0.toList = ([] : List UInt8) then (some false) else (if (a0.size : Int) ≤ 12 then ((strings_Trim.f a0 a1).bind fun t202 => (some (t202.toList == ([] : List UInt8)))) else (some false))
theorem word_made.calls (a0 : ByteArray) (a1 : ByteArray) (r : Bool) (w : World) (h : word_made.f a0 a1 = some r) :
 Calls Tryz.prog 189 #[.string a0, .string a1] w fun e w' => e = .returned (.bool r) ∧ Below w.heap.size w w' := by
 have HB := Aside0.mk (Below.refl w.heap.size w)
 have H : (if a0.toList = ([] : List UInt8) then (some false) else (if (a0.size : Int) ≤ 12 then ((strings_Trim.f a0 a1).bind fun t202 => (some (t202.toList == ([] : List UInt8)))) else (some false))) = some r := h
 clear h
 by_cases c3 : a0.toList = ([] : List UInt8)
 ·
  rw [if_pos c3] at H
  have c3b0 : (a0.toList == ([] : List UInt8)) = true := beq_iff_eq.mpr c3
  have c3b1 : (a0.toList != ([] : List UInt8)) = false := bne_eq_false_iff_eq.mpr c3
  clear c3
  obtain rfl := Option.some.inj H
  go_enter Tryz.func189, Tryz.ntmps189
  go_wp2
  go_ret
  exact ⟨re_, uW HB.out⟩
 ·
  rw [if_neg c3] at H
  have c3b0 : (a0.toList == ([] : List UInt8)) = false := beq_eq_false_iff_ne.mpr c3
  have c3b1 : (a0.toList != ([] : List UInt8)) = true := bne_iff_ne.mpr c3
  by_cases c4 : (a0.size : Int) ≤ 12
  ·
   rw [if_pos c4] at H
   have c4b0 : decide ((a0.size : Int) ≤ 12) = true := decide_eq_true c4
   have c4b1 : decide (a0.size ≤ 12) = true := decide_eq_true (by omega)
   clear c4
   obtain ⟨t202, A5, H⟩ := bs H
   try dsimp only at H
   obtain rfl := Option.some.inj H
   go_enter Tryz.func189, Tryz.ntmps189
   go_wp2_with (first | (go_at_call 105; (with_reducible refine (strings_Trim.calls a0 a1 t202 _ A5.out).mono ?_); rintro e w6 ⟨rfl, hb⟩; replace HB := cW HB hb; (try clear hb)))
   go_ret
   exact ⟨re_, uW HB.out⟩
  ·
   rw [if_neg c4] at H
   have c4b0 : decide ((a0.size : Int) ≤ 12) = false := decide_eq_false c4
   have c4b1 : decide (a0.size ≤ 12) = false := decide_eq_false (by omega)
   clear c4
   obtain rfl := Option.some.inj H
   go_enter Tryz.func189, Tryz.ntmps189
   go_wp2
   go_ret
   exact ⟨re_, uW HB.out⟩
def word_Name.f (a0 : ByteArray) : Option (Bool) := (word_made.f a0 (⟨#[97, 98, 99, 100, 101, 102, 103, 104, 105, 106, 107, 108, 109, 110, 111, 112, 113, 114, 115, 116, 117, 118, 119, 120, 121, 122, 48, 49, 50, 51, 52, 53, 54, 55, 56, 57, 95]⟩ : ByteArray)).bind fun t203 => (if t203 = true then (if 0 < (a0.size : Int) then ((strings_IndexByte.f (⟨#[97, 98, 99, 100, 101, 102, 103, 104, 105, 106, 107, 108, 109, 110, 111, 112, 113, 114, 115, 116, 117, 118, 119, 120, 121, 122]⟩ : ByteArray) (bt a0 0)).bind fun t204 => (some (decide (t204 ≥ 0)))) else (none)) else (some false))
theorem word_Name.calls (a0 : ByteArray) (r : Bool) (w : World) (h : word_Name.f a0 = some r) :
 Calls Tryz.prog 180 #[.string a0] w fun e w' => e = .returned (.bool r) ∧ Below w.heap.size w w' := by
 have HB := Aside0.mk (Below.refl w.heap.size w)
 have H : ((word_made.f a0 (⟨#[97, 98, 99, 100, 101, 102, 103, 104, 105, 106, 107, 108, 109, 110, 111, 112, 113, 114, 115, 116, 117, 118, 119, 120, 121, 122, 48, 49, 50, 51, 52, 53, 54, 55, 56, 57, 95]⟩ : ByteArray)).bind fun t203 => (if t203 = true then (if 0 < (a0.size : Int) then ((strings_IndexByte.f (⟨#[97, 98, 99, 100, 101, 102, 103, 104, 105, 106, 107, 108, 109, 110, 111, 112, 113, 114, 115, 116, 117, 118, 119, 120, 121, 122]⟩ : ByteArray) (bt a0 0)).bind fun t204 => (some (decide (t204 ≥ 0)))) else (none)) else (some false))) = some r := h
 clear h
 obtain ⟨t203, A2, H⟩ := bs H
 try dsimp only at H
 by_cases c3 : t203 = true
 ·
  subst c3
  rw [if_pos rfl] at H
  obtain ⟨c4, H⟩ := gd H
  have c4b0 : decide (0 < (a0.size : Int)) = true := decide_eq_true c4
  have c4b1 : decide (0 < a0.size) = true := decide_eq_true (by omega)
  clear c4
  obtain ⟨t204, A6, H⟩ := bs H
  try dsimp only at H
  obtain rfl := Option.some.inj H
  go_enter Tryz.func180, Tryz.ntmps180
  go_wp2_with (first | (refine gL (some 4) rfl Tryz.func189 #[.string a0, .string (⟨#[97, 98, 99, 100, 101, 102, 103, 104, 105, 106, 107, 108, 109, 110, 111, 112, 113, 114, 115, 116, 117, 118, 119, 120, 121, 122, 48, 49, 50, 51, 52, 53, 54, 55, 56, 57, 95]⟩ : ByteArray)] ?_; (with_reducible refine (word_made.calls a0 (⟨#[97, 98, 99, 100, 101, 102, 103, 104, 105, 106, 107, 108, 109, 110, 111, 112, 113, 114, 115, 116, 117, 118, 119, 120, 121, 122, 48, 49, 50, 51, 52, 53, 54, 55, 56, 57, 95]⟩ : ByteArray) true _ A2.out).mono ?_); rintro e w7 ⟨rfl, hb⟩; refine ⟨_, rfl, ?_⟩; replace HB := cW HB hb; (try clear hb); have p5 : 0 ≤ (0 : Int) := (by omega); have q5 : 0 < a0.size := (by have : (0 : Int) < (a0.size : Int) := od; omega); have hx5 : ∀ h : 0 < a0.size, ((a0[0]'h).toNat : Int) = bt a0 0 := bt_at a0 0; clear p5; have qi5 : (0 < (a0.size : Int)) = True := eq_true (od); replace q5 := eq_true q5) | (go_at_call 82; (with_reducible refine (strings_IndexByte.calls (⟨#[97, 98, 99, 100, 101, 102, 103, 104, 105, 106, 107, 108, 109, 110, 111, 112, 113, 114, 115, 116, 117, 118, 119, 120, 121, 122]⟩ : ByteArray) (bt a0 0) t204 _ A6.out).mono ?_); rintro e w' ⟨rfl, ⟨nd, rfl⟩⟩))
  go_ret
  exact ⟨re_, uW HB.out⟩
 ·
  replace c3 := Bool.eq_false_iff.mpr c3
  subst c3
  rw [if_neg (show ¬ (false = true) by decide)] at H
  obtain rfl := Option.some.inj H
  go_enter Tryz.func180, Tryz.ntmps180
  go_wp2_with (first | (refine gL (some 4) rfl Tryz.func189 #[.string a0, .string (⟨#[97, 98, 99, 100, 101, 102, 103, 104, 105, 106, 107, 108, 109, 110, 111, 112, 113, 114, 115, 116, 117, 118, 119, 120, 121, 122, 48, 49, 50, 51, 52, 53, 54, 55, 56, 57, 95]⟩ : ByteArray)] ?_; (with_reducible refine (word_made.calls a0 (⟨#[97, 98, 99, 100, 101, 102, 103, 104, 105, 106, 107, 108, 109, 110, 111, 112, 113, 114, 115, 116, 117, 118, 119, 120, 121, 122, 48, 49, 50, 51, 52, 53, 54, 55, 56, 57, 95]⟩ : ByteArray) false _ A2.out).mono ?_); rintro e w8 ⟨rfl, hb⟩; refine ⟨_, rfl, ?_⟩; replace HB := cW HB hb; (try clear hb)))
  go_ret
  exact ⟨re_, uW HB.out⟩
def word_Value.f (a0 : ByteArray) : Option (Bool) := (word_made.f a0 (⟨#[97, 98, 99, 100, 101, 102, 103, 104, 105, 106, 107, 108, 109, 110, 111, 112, 113, 114, 115, 116, 117, 118, 119, 120, 121, 122, 48, 49, 50, 51, 52, 53, 54, 55, 56, 57, 95, 45, 46]⟩ : ByteArray)).bind fun t205 => (some t205)
theorem word_Value.calls (a0 : ByteArray) (r : Bool) (w : World) (h : word_Value.f a0 = some r) :
 Calls Tryz.prog 181 #[.string a0] w fun e w' => e = .returned (.bool r) ∧ Below w.heap.size w w' := by
 have HB := Aside0.mk (Below.refl w.heap.size w)
 have H : ((word_made.f a0 (⟨#[97, 98, 99, 100, 101, 102, 103, 104, 105, 106, 107, 108, 109, 110, 111, 112, 113, 114, 115, 116, 117, 118, 119, 120, 121, 122, 48, 49, 50, 51, 52, 53, 54, 55, 56, 57, 95, 45, 46]⟩ : ByteArray)).bind fun t205 => (some t205)) = some r := h
 clear h
 obtain ⟨t205, A2, H⟩ := bs H
 try dsimp only at H
 obtain rfl := Option.some.inj H
 go_enter Tryz.func181, Tryz.ntmps181
 go_wp2_with (first | (refine gL (some 4) rfl Tryz.func189 #[.string a0, .string (⟨#[97, 98, 99, 100, 101, 102, 103, 104, 105, 106, 107, 108, 109, 110, 111, 112, 113, 114, 115, 116, 117, 118, 119, 120, 121, 122, 48, 49, 50, 51, 52, 53, 54, 55, 56, 57, 95, 45, 46]⟩ : ByteArray)] ?_; (with_reducible refine (word_made.calls a0 (⟨#[97, 98, 99, 100, 101, 102, 103, 104, 105, 106, 107, 108, 109, 110, 111, 112, 113, 114, 115, 116, 117, 118, 119, 120, 121, 122, 48, 49, 50, 51, 52, 53, 54, 55, 56, 57, 95, 45, 46]⟩ : ByteArray) t205 _ A2.out).mono ?_); rintro e w3 ⟨rfl, hb⟩; refine ⟨_, rfl, ?_⟩; replace HB := cW HB hb; (try clear hb)))
 go_ret
 exact ⟨re_, uW HB.out⟩
def tag_may.f (a0_0 : ByteArray) (a0_1 : ByteArray) : Option (Bool) := (word_Name.f a0_0).bind fun t207 => (if t207 = true then ((word_Value.f a0_1).bind fun t208 => (some t208)) else (some false))
theorem tag_may.calls (a0_0 : ByteArray) (a0_1 : ByteArray) (r : Bool) (w : World) (h : tag_may.f a0_0 a0_1 = some r) :
 Calls Tryz.prog 165 #[.agg #[.string a0_0, .string a0_1]] w fun e w' => e = .returned (.bool r) ∧ Below w.heap.size w w' := by
 have hu113 := Tryz.underlying113
 have HB := Aside0.mk (Below.refl w.heap.size w)
 have H : ((word_Name.f a0_0).bind fun t207 => (if t207 = true then ((word_Value.f a0_1).bind fun t208 => (some t208)) else (some false))) = some r := h
 clear h
 obtain ⟨t207, A2, H⟩ := bs H
 try dsimp only at H
 by_cases c3 : t207 = true
 ·
  subst c3
  rw [if_pos rfl] at H
  obtain ⟨t208, A4, H⟩ := bs H
  try dsimp only at H
  obtain rfl := Option.some.inj H
  go_enter Tryz.func165, Tryz.ntmps165
  go_wp2_with (first | ((with_reducible refine gate_dst (N := 1) rfl ?_); refine bx (N := 1) #[.string a0_0, .string a0_1] 113 ?_; intro gb206 hg w5 hbox hb; have BK206 := Aside0.mk (hbox); have GW206 := gw hg (uW HB.out); have GE206 := GW206; replace HB := cW HB hb; clear hb hbox hg; obtain ⟨hcz6_0, hcz6_1, hfz6_0, hfz6_1⟩ := z2 BK206) | (refine gL (some 5) rfl Tryz.func180 #[.string a0_0] ?_; (with_reducible refine (word_Name.calls a0_0 true _ A2.out).mono ?_); rintro e w7 ⟨rfl, hb⟩; refine ⟨_, rfl, ?_⟩; replace BK206 := cB BK206 hb; replace HB := Aside0.mk (below_step bl hb); (try clear hb); obtain ⟨hcz8_0, hcz8_1, hfz8_0, hfz8_1⟩ := z2 BK206) | (go_at_call 181; (with_reducible refine (word_Value.calls a0_1 t208 _ A4.out).mono ?_); rintro e w9 ⟨rfl, hb⟩; replace BK206 := cB BK206 hb; replace HB := Aside0.mk (below_step bl hb); (try clear hb)))
  go_ret
  exact ⟨re_, bl⟩
 ·
  replace c3 := Bool.eq_false_iff.mpr c3
  subst c3
  rw [if_neg (show ¬ (false = true) by decide)] at H
  obtain rfl := Option.some.inj H
  go_enter Tryz.func165, Tryz.ntmps165
  go_wp2_with (first | ((with_reducible refine gate_dst (N := 1) rfl ?_); refine bx (N := 1) #[.string a0_0, .string a0_1] 113 ?_; intro gb206 hg w10 hbox hb; have BK206 := Aside0.mk (hbox); have GW206 := gw hg (uW HB.out); have GE206 := GW206; replace HB := cW HB hb; clear hb hbox hg; obtain ⟨hcz11_0, hcz11_1, hfz11_0, hfz11_1⟩ := z2 BK206) | (refine gL (some 5) rfl Tryz.func180 #[.string a0_0] ?_; (with_reducible refine (word_Name.calls a0_0 false _ A2.out).mono ?_); rintro e w12 ⟨rfl, hb⟩; refine ⟨_, rfl, ?_⟩; replace BK206 := cB BK206 hb; replace HB := Aside0.mk (below_step bl hb); (try clear hb)))
  go_ret
  exact ⟨re_, bl⟩
def tag_Canon_1.f (a0_0 : ByteArray) (a0_1 : ByteArray) : Option (Bool) := (tag_may.f a0_0 a0_1).bind fun t210 => (some (!t210))
theorem tag_Canon_1.calls (a0_0 : ByteArray) (a0_1 : ByteArray) (r : Bool) (w : World) (h : tag_Canon_1.f a0_0 a0_1 = some r) :
 Calls Tryz.prog 164 #[.agg #[.string a0_0, .string a0_1]] w fun e w' => e = .returned (.bool r) ∧ Below w.heap.size w w' := by
 have hu113 := Tryz.underlying113
 have HB := Aside0.mk (Below.refl w.heap.size w)
 have H : ((tag_may.f a0_0 a0_1).bind fun t210 => (some (!t210))) = some r := h
 clear h
 obtain ⟨t210, A2, H⟩ := bs H
 try dsimp only at H
 obtain rfl := Option.some.inj H
 go_enter Tryz.func164, Tryz.ntmps164
 go_wp2_with (first | ((with_reducible refine gate_dst (N := 1) rfl ?_); refine bx (N := 1) #[.string a0_0, .string a0_1] 113 ?_; intro gb209 hg w3 hbox hb; have BK209 := Aside0.mk (hbox); have GW209 := gw hg (uW HB.out); have GE209 := GW209; replace HB := cW HB hb; clear hb hbox hg; obtain ⟨hcz4_0, hcz4_1, hfz4_0, hfz4_1⟩ := z2 BK209) | (refine gL (some 4) rfl Tryz.func165 #[.agg #[.string a0_0, .string a0_1]] ?_; (with_reducible refine (tag_may.calls a0_0 a0_1 t210 _ A2.out).mono ?_); rintro e w5 ⟨rfl, hb⟩; refine ⟨_, rfl, ?_⟩; replace BK209 := cB BK209 hb; replace HB := Aside0.mk (below_step bl hb); (try clear hb)))
 go_ret
 exact ⟨re_, bl⟩
theorem api_Tag_with_164_179.goesV_ {P : Program} {ops : Array Oper} {Q : Exit → Act → World → Prop} {oi : Oper} {N : Option Tmp} {a : Act} {w : World} {K : Act → World → Prop} {f : FuncId} {fn : Func} {cal : Operand} {as_ : Array Operand} {ts : Array TypeId} (hf : P.funcs[f]? = some fn) (hname : (fn.name == "runtime.NumGoroutine") = false) (hb : fn.body.isSome = true) (args : Array Value)
 (hw : Region.wanted oi (yielded ops a.tmps) = true) (hN : oi.dst = N) (hop : oi.op = .call { callee := .value cal, args := as_, argTypes := ts }) (hev : a.eval cal = .func (.func f) #[] #[]) (hargs : as_.map a.eval = args)
 (h : Calls P f args w fun e w' => ∃ v, e = .returned v ∧ K (a.put N v) w') : if Region.wanted oi (yielded ops a.tmps) = true then Oper.wp P oi a w K Q else K (a.put N undef) w := by
 refine call_ f args hw hN ?_ h
 have he := enters_ hf hname hb args w
 unfold execOp
 simp [hop, resolve, Deferred.ofValue, invoke, hev, hargs, he]
theorem api_Tag_with_164_179.goesVL_ {P : Program} {ops : Array Oper} {Q : Exit → Act → World → Prop} {rest : List Oper} {oi : Oper} {a : Act} {w : World} (N : Option Tmp) (hd : oi.dst = N) (hg : oi.guard = none) {f : FuncId} {fn : Func} {cal : Operand} {as_ : Array Operand} {ts : Array TypeId} (hf : P.funcs[f]? = some fn) (hname : (fn.name == "runtime.NumGoroutine") = false) (hb : fn.body.isSome = true) (args : Array Value)
 (hop : oi.op = .call { callee := .value cal, args := as_, argTypes := ts }) (hev : a.eval cal = .func (.func f) #[] #[]) (hargs : as_.map a.eval = args)
 (h : Calls P f args w fun e w' => ∃ v, e = .returned v ∧ wpList P ops Q rest (a.put N v) w') : wpList P ops Q (oi :: rest) a w := by
 refine wpList_plain hg fun K hK => ?_
 have he := enters_ hf hname hb args w
 have hrun : (execOp a.eval oi).run P w = .ok (.enter f args) w := by
  unfold execOp
  simp [hop, resolve, Deferred.ofValue, invoke, hev, hargs, he]
 unfold Oper.wp
 rw [hrun, Oper.upon_enter]
 refine h.mono fun e w'' hh => ?_
 obtain ⟨v, rfl, hk⟩ := hh
 subst hd
 exact hK _ _ hk
def api_Tag_with_164_179.l0 : Nat → List (S113) → Int → Int → Option (Int)
 | 0, _, _, _ => none
 | k + 1, x0, x7, x8 => if x8 < x7 then (if 0 ≤ x8 then (if x8 < (x0.length : Int) then ((tag_Canon_1.f ((rd_T113 x0 x8).f0) ((rd_T113 x0 x8).f1)).bind fun t212 => (if t212 = true then (some x8) else (api_Tag_with_164_179.l0 k x0 x7 (wrap64 (x8 + 1))))) else (none)) else (none)) else (some (-1))
def api_Tag_with_164_179.f (k : Nat) (l0 : List (S113)) : Option (Int) := api_Tag_with_164_179.l0 k l0 (l0.length : Int) 0
theorem api_Tag_with_164_179.mono_l : ∀ k, (∀ y0 y1 y2, LeC (api_Tag_with_164_179.l0 k y0 y1 y2) (api_Tag_with_164_179.l0 (k + 1) y0 y1 y2))
 | 0 => fun _ _ _ => ⟨fun r h => by simp [api_Tag_with_164_179.l0] at h⟩
 | k + 1 => by have ih0 := api_Tag_with_164_179.mono_l k; exact fun _ _ _ => by unfold api_Tag_with_164_179.l0; exact lm
theorem api_Tag_with_164_179.mono : ∀ a0 k, LeO (api_Tag_with_164_179.f k a0) (api_Tag_with_164_179.f (k + 1) a0) := by
 intro a0 k
 have ih0 := api_Tag_with_164_179.mono_l k
 unfold api_Tag_with_164_179.f
 exact lo
instance api_Tag_with_164_179.mI {a0 k} : LeC (api_Tag_with_164_179.f k a0) (api_Tag_with_164_179.f (k + 1) a0) := ⟨api_Tag_with_164_179.mono _ _⟩
theorem api_Tag_with_164_179.calls (k : Nat) (A0 : Option Addr) (c0 : Nat) (l0 : List (S113)) (r : Int) (w : World) (hr0 : Kd.C k113 w A0 l0.length l0) (hc0 : l0.length ≤ c0) (h : api_Tag_with_164_179.f k l0 = some r) :
 Calls Tryz.prog 179 #[.slice A0 l0.length c0, .func (.func 164) #[] #[]] w fun e w' => e = .returned (.int .i64 r) ∧ Below w.heap.size w w' := by
 have hu113 := Tryz.underlying113
 have HR0 := Aside0.mk hr0
 have HC0 := Aside0.mk hc0
 clear hr0 hc0
 have HB := Aside0.mk (Below.refl w.heap.size w)
 have H : (api_Tag_with_164_179.l0 k l0 (l0.length : Int) 0) = some r := h
 clear h
 have H' := Aside0.mk H
 clear H
 have eg164 : ∀ args w, (callFunc 164 args).run Tryz.prog w = .ok (.enter 164 args) w := enters_of Tryz.func164 (by kernel_rfl) rfl
 go_enter Tryz.func179, Tryz.ntmps179
 go_wp2
 go_loopg [8] k (fun kq v8 w' => ∃ (x8_1 : Int), v8 = .int .i64 x8_1 ∧ Aside0 (api_Tag_with_164_179.l0 kq l0 (l0.length : Int) x8_1 = some r) ∧ Aside0 (kq ≤ k) ∧ Aside0 (Below w.heap.size w w'))
 case atStart => exact ⟨(0), rs_, H', ⟨Nat.le_refl _⟩, ⟨uW HB.out⟩⟩
 case round =>
  clear H'
  obtain ⟨x8_1, rfl, HA, HK1, HB⟩ := hrel
  cases gk with
  | zero => exact absurd HA.out (by simp [api_Tag_with_164_179.l0])
  | succ k1 =>
   have H := HA.out
   clear HA
   simp only [api_Tag_with_164_179.l0] at H
   by_cases c2 : x8_1 < (l0.length : Int)
   ·
    rw [if_pos c2] at H
    have c2b0 : decide (x8_1 < (l0.length : Int)) = true := decide_eq_true c2
    clear c2
    obtain ⟨c3b0, H⟩ := gdd H
    obtain ⟨c4b0, H⟩ := gdd H
    obtain ⟨t212, A5, H⟩ := bs H
    try dsimp only at H
    by_cases c6 : t212 = true
    ·
     subst c6
     rw [if_pos rfl] at H
     obtain rfl := Option.some.inj H
     have p211 : 0 ≤ (x8_1 : Int) := od
     have q211 : x8_1 < (l0.length : Int) := od
     obtain ⟨ad211, e211, hx211_0, hx211_1⟩ := at_T113 HR0.out x8_1 p211 q211
     cases e211
     replace hx211_0 := kc HB hx211_0
     replace hx211_1 := kc HB hx211_1
     replace p211 := eq_true p211
     replace q211 := eq_true q211
     go_wp2_with (first | (refine api_Tag_with_164_179.goesVL_ (some 16) rfl rfl Tryz.func164 (by kernel_rfl) rfl #[.agg #[.string ((rd_T113 l0 x8_1).f0), .string ((rd_T113 l0 x8_1).f1)]] rfl (by rfl) (by (try simp only [List.map_toArray, List.map_cons, List.map_nil]); first | done | rfl | (simp only [List.length_drop, List.length_take]; rfl)) ?_; (with_reducible refine (tag_Canon_1.calls ((rd_T113 l0 x8_1).f0) ((rd_T113 l0 x8_1).f1) true _ A5.out).mono ?_); rintro e w7 ⟨rfl, hb⟩; refine ⟨_, rfl, ?_⟩; replace HB := cW HB hb; (try clear hb)))
     go_ret
     exact ⟨re_, uW HB.out⟩
    ·
     replace c6 := Bool.eq_false_iff.mpr c6
     subst c6
     rw [if_neg (show ¬ (false = true) by decide)] at H
     have H' := Aside0.mk H
     clear H
     have p211 : 0 ≤ (x8_1 : Int) := od
     have q211 : x8_1 < (l0.length : Int) := od
     obtain ⟨ad211, e211, hx211_0, hx211_1⟩ := at_T113 HR0.out x8_1 p211 q211
     cases e211
     replace hx211_0 := kc HB hx211_0
     replace hx211_1 := kc HB hx211_1
     replace p211 := eq_true p211
     replace q211 := eq_true q211
     go_wp2_with (first | (refine api_Tag_with_164_179.goesVL_ (some 16) rfl rfl Tryz.func164 (by kernel_rfl) rfl #[.agg #[.string ((rd_T113 l0 x8_1).f0), .string ((rd_T113 l0 x8_1).f1)]] rfl (by rfl) (by (try simp only [List.map_toArray, List.map_cons, List.map_nil]); first | done | rfl | (simp only [List.length_drop, List.length_take]; rfl)) ?_; (with_reducible refine (tag_Canon_1.calls ((rd_T113 l0 x8_1).f0) ((rd_T113 l0 x8_1).f1) false _ A5.out).mono ?_); rintro e w8 ⟨rfl, hb⟩; refine ⟨_, rfl, ?_⟩; replace HB := cW HB hb; (try clear hb)))
     go_roundg k1
     case measure => have := HK1.out; omega
     case rel => exact ⟨(wrap64 (x8_1 + 1)), rs_, H', ⟨by have := HK1.out; omega⟩, ⟨uW HB.out⟩⟩
   ·
    rw [if_neg c2] at H
    have c2b0 : decide (x8_1 < (l0.length : Int)) = false := decide_eq_false c2
    clear c2
    obtain rfl := Option.some.inj H
    go_wp2
    go_ret
    exact ⟨re_, uW HB.out⟩
def api_Tag_with_164_163.f (k : Nat) (l0 : List (S113)) : Option (Bool) := (api_Tag_with_164_179.f k l0).bind fun t213 => (some (decide (t213 ≥ 0)))
theorem api_Tag_with_164_163.mono : ∀ a0 k, LeO (api_Tag_with_164_163.f k a0) (api_Tag_with_164_163.f (k + 1) a0) := by
 intro a0 k
 unfold api_Tag_with_164_163.f
 exact lo
instance api_Tag_with_164_163.mI {a0 k} : LeC (api_Tag_with_164_163.f k a0) (api_Tag_with_164_163.f (k + 1) a0) := ⟨api_Tag_with_164_163.mono _ _⟩
theorem api_Tag_with_164_163.calls (k : Nat) (A0 : Option Addr) (c0 : Nat) (l0 : List (S113)) (r : Bool) (w : World) (hr0 : Kd.C k113 w A0 l0.length l0) (hc0 : l0.length ≤ c0) (h : api_Tag_with_164_163.f k l0 = some r) :
 Calls Tryz.prog 163 #[.slice A0 l0.length c0, .func (.func 164) #[] #[]] w fun e w' => e = .returned (.bool r) ∧ Below w.heap.size w w' := by
 have HR0 := Aside0.mk hr0
 have HC0 := Aside0.mk hc0
 clear hr0 hc0
 have HB := Aside0.mk (Below.refl w.heap.size w)
 have H : ((api_Tag_with_164_179.f k l0).bind fun t213 => (some (decide (t213 ≥ 0)))) = some r := h
 clear h
 obtain ⟨t213, A2, H⟩ := bs H
 try dsimp only at H
 obtain rfl := Option.some.inj H
 go_enter Tryz.func163, Tryz.ntmps163
 go_wp2_with (first | (refine gL (some 7) rfl Tryz.func179 #[.slice A0 l0.length c0, (.func (.func 164) #[] #[])] ?_; (with_reducible refine (api_Tag_with_164_179.calls k _ _ l0 t213 _ ?side1 ?side2 A2.out).mono ?_); (case side1 => exact uC <| HR0.out); (case side2 => exact HC0.out); rintro e w3 ⟨rfl, hb⟩; refine ⟨_, rfl, ?_⟩; replace HB := cW HB hb; (try clear hb)))
 go_ret
 exact ⟨re_, uW HB.out⟩
theorem api_Tag_with_168_190.goesV_ {P : Program} {ops : Array Oper} {Q : Exit → Act → World → Prop} {oi : Oper} {N : Option Tmp} {a : Act} {w : World} {K : Act → World → Prop} {f : FuncId} {fn : Func} {cal : Operand} {as_ : Array Operand} {ts : Array TypeId} (hf : P.funcs[f]? = some fn) (hname : (fn.name == "runtime.NumGoroutine") = false) (hb : fn.body.isSome = true) (args : Array Value)
 (hw : Region.wanted oi (yielded ops a.tmps) = true) (hN : oi.dst = N) (hop : oi.op = .call { callee := .value cal, args := as_, argTypes := ts }) (hev : a.eval cal = .func (.func f) #[] #[]) (hargs : as_.map a.eval = args)
 (h : Calls P f args w fun e w' => ∃ v, e = .returned v ∧ K (a.put N v) w') : if Region.wanted oi (yielded ops a.tmps) = true then Oper.wp P oi a w K Q else K (a.put N undef) w := by
 refine call_ f args hw hN ?_ h
 have he := enters_ hf hname hb args w
 unfold execOp
 simp [hop, resolve, Deferred.ofValue, invoke, hev, hargs, he]
theorem api_Tag_with_168_190.goesVL_ {P : Program} {ops : Array Oper} {Q : Exit → Act → World → Prop} {rest : List Oper} {oi : Oper} {a : Act} {w : World} (N : Option Tmp) (hd : oi.dst = N) (hg : oi.guard = none) {f : FuncId} {fn : Func} {cal : Operand} {as_ : Array Operand} {ts : Array TypeId} (hf : P.funcs[f]? = some fn) (hname : (fn.name == "runtime.NumGoroutine") = false) (hb : fn.body.isSome = true) (args : Array Value)
 (hop : oi.op = .call { callee := .value cal, args := as_, argTypes := ts }) (hev : a.eval cal = .func (.func f) #[] #[]) (hargs : as_.map a.eval = args)
 (h : Calls P f args w fun e w' => ∃ v, e = .returned v ∧ wpList P ops Q rest (a.put N v) w') : wpList P ops Q (oi :: rest) a w := by
 refine wpList_plain hg fun K hK => ?_
 have he := enters_ hf hname hb args w
 have hrun : (execOp a.eval oi).run P w = .ok (.enter f args) w := by
  unfold execOp
  simp [hop, resolve, Deferred.ofValue, invoke, hev, hargs, he]
 unfold Oper.wp
 rw [hrun, Oper.upon_enter]
 refine h.mono fun e w'' hh => ?_
 obtain ⟨v, rfl, hk⟩ := hh
 subst hd
 exact hK _ _ hk
mutual
def api_Tag_with_168_190.l0 : Nat → List (S113) → Int → Int → Int → Option ((List (S113)))
 | 0, _, _, _, _ => none
 | k + 1, x0, x1, x2, x8 => if x8 < x2 then (api_Tag_with_168_190.l1 k x0 x1 x2 x8 x8) else (some x0)
def api_Tag_with_168_190.l1 : Nat → List (S113) → Int → Int → Int → Int → Option ((List (S113)))
 | 0, _, _, _, _, _ => none
 | k + 1, x0, x1, x2, x8, x9 => if x9 > x1 then (if 0 ≤ x9 then (if x9 < (x0.length : Int) then (if 0 ≤ (wrap64 (x9 - 1)) then (if (wrap64 (x9 - 1)) < (x0.length : Int) then ((tag_order.f ((rd_T113 x0 x9).f0) ((rd_T113 x0 x9).f1) ((rd_T113 x0 (wrap64 (x9 - 1))).f0) ((rd_T113 x0 (wrap64 (x9 - 1))).f1)).bind fun t216 => (if t216 < 0 then (api_Tag_with_168_190.l1 k ((x0.set (x9 : Int).toNat (⟨(rd_T113 x0 (wrap64 (x9 - 1))).f0, (rd_T113 x0 (wrap64 (x9 - 1))).f1⟩ : S113)).set ((wrap64 (x9 - 1)) : Int).toNat (⟨(rd_T113 x0 x9).f0, (rd_T113 x0 x9).f1⟩ : S113)) x1 x2 x8 (wrap64 (x9 - 1))) else (api_Tag_with_168_190.l0 k x0 x1 x2 (wrap64 (x8 + 1))))) else (none)) else (none)) else (none)) else (none)) else (api_Tag_with_168_190.l0 k x0 x1 x2 (wrap64 (x8 + 1)))
end
def api_Tag_with_168_190.f (k : Nat) (l0 : List (S113)) (a1 : Int) (a2 : Int) : Option ((List (S113))) := api_Tag_with_168_190.l0 k l0 a1 a2 (wrap64 (a1 + 1))
theorem api_Tag_with_168_190.mono_l : ∀ k, (∀ y0 y1 y2 y3, LeC (api_Tag_with_168_190.l0 k y0 y1 y2 y3) (api_Tag_with_168_190.l0 (k + 1) y0 y1 y2 y3)) ∧ (∀ y0 y1 y2 y3 y4, LeC (api_Tag_with_168_190.l1 k y0 y1 y2 y3 y4) (api_Tag_with_168_190.l1 (k + 1) y0 y1 y2 y3 y4))
 | 0 => ⟨fun _ _ _ _ => ⟨fun r h => by simp [api_Tag_with_168_190.l0] at h⟩, fun _ _ _ _ _ => ⟨fun r h => by simp [api_Tag_with_168_190.l1] at h⟩⟩
 | k + 1 => by obtain ⟨ih0, ih1⟩ := api_Tag_with_168_190.mono_l k; exact ⟨fun _ _ _ _ => by unfold api_Tag_with_168_190.l0; exact lm, fun _ _ _ _ _ => by unfold api_Tag_with_168_190.l1; exact lm⟩
theorem api_Tag_with_168_190.mono : ∀ a0 a1 a2 k, LeO (api_Tag_with_168_190.f k a0 a1 a2) (api_Tag_with_168_190.f (k + 1) a0 a1 a2) := by
 intro a0 a1 a2 k
 obtain ⟨ih0, ih1⟩ := api_Tag_with_168_190.mono_l k
 unfold api_Tag_with_168_190.f
 exact lo
instance api_Tag_with_168_190.mI {a0 a1 a2 k} : LeC (api_Tag_with_168_190.f k a0 a1 a2) (api_Tag_with_168_190.f (k + 1) a0 a1 a2) := ⟨api_Tag_with_168_190.mono _ _ _ _⟩
def api_Tag_with_168_190.T4 : Bool × List (List Nat × List Nat) := (true, [([], []), ([], []), ([0, 1], [0, 1]), ([2], [2]), ([3], [3]), ([3], [3]), ([3], [3]), ([5, 6, 3], [3, 5, 6]), ([7, 3], [3, 7]), ([3], [3]), ([3], [3]), ([10, 3], [3, 10]), ([9, 11, 3], [3, 9, 11]), ([12, 3], [3, 12]), ([4, 8, 13, 3, 3], [3, 4, 8, 13]), ([14, 3], [3, 14]), ([3, 15], [3, 15])])
def api_Tag_with_168_190.B4 : List Nat := [0, 0, 3, 7, 15, 15, 15, 111, 239, 15, 15, 1039, 3599, 7695, 16383, 32767, 65535]
theorem api_Tag_with_168_190.tab4 : rtab .any (opsOf Tryz.f190 4) = api_Tag_with_168_190.T4 := by kernel_rfl
theorem api_Tag_with_168_190.bits4 : waitsOk api_Tag_with_168_190.T4.2 api_Tag_with_168_190.B4 = true := by kernel_rfl
def api_Tag_with_168_190.T6 : Bool × List (List Nat × List Nat) := (true, [([], []), ([], []), ([], []), ([], []), ([3], [3]), ([], []), ([], []), ([6], [6]), ([5, 7], [5, 7]), ([8], [8]), ([], []), ([], []), ([10, 11], [10, 11]), ([12], [12]), ([0, 1, 0, 1, 5, 6, 7, 8, 9, 13], [0, 1]), ([14, 9, 0, 1, 5, 6, 7, 8, 9, 13], [9, 14]), ([2, 4, 0, 1, 2, 3, 4, 5, 6, 7, 8, 9, 10, 11, 12, 13, 14, 15], [2, 4]), ([16, 13, 15, 0, 1, 2, 3, 4, 5, 6, 7, 8, 9, 10, 11, 12, 13, 14, 15], [13, 16])])
def api_Tag_with_168_190.B6 : List Nat := [0, 0, 0, 0, 8, 0, 0, 64, 224, 480, 0, 0, 3072, 7168, 16355, 32739, 65535, 131071]
theorem api_Tag_with_168_190.tab6 : rtab .any (opsOf Tryz.f190 6) = api_Tag_with_168_190.T6 := by kernel_rfl
theorem api_Tag_with_168_190.bits6 : waitsOk api_Tag_with_168_190.T6.2 api_Tag_with_168_190.B6 = true := by kernel_rfl
theorem api_Tag_with_168_190.calls (k : Nat) (P0_ : Nat → Prop) (u9000_ : Value) (l0 : List (S113)) (a1 : Int) (a2 : Int) (r : List (S113)) (w0 w : World) (hB : Below w0.heap.size w0 w) (ho0 : Kd.R k113 113 w w0.heap.size P0_ u9000_ l0) (h : api_Tag_with_168_190.f k l0 a1 a2 = some r) :
 Calls Tryz.prog 190 #[u9000_, .int .i64 a1, .int .i64 a2, .func (.func 168) #[] #[]] w fun e w' => e = .returned (.tuple #[]) ∧ Kd.R k113 113 w' w0.heap.size (fun k_ => (P0_ k_ ∨ w.heap.size ≤ k_)) u9000_ r ∧ Below w0.heap.size w0 w' ∧ Kept w w' (fun k_ => P0_ k_) := by
 have hu113 := Tryz.underlying113
 have HO0 := Aside0.mk (show Kd.R k113 113 w w0.heap.size (fun k_ => (P0_ k_ ∨ w.heap.size ≤ k_)) u9000_ l0 from Kd.R_mono ho0 (fun k_ hk => (.inl hk)))
 have HK := Aside0.mk (Kept.refl w (fun k_ => P0_ k_))
 have HW0 := Aside0.mk hB.size
 have HB := Aside0.mk hB
 clear hB
 have H : (api_Tag_with_168_190.l0 k l0 a1 a2 (wrap64 (a1 + 1))) = some r := h
 clear h
 have H' := Aside0.mk H
 clear H
 have eg168 : ∀ args w, (callFunc 168 args).run Tryz.prog w = .ok (.enter 168 args) w := enters_of Tryz.func168 (by kernel_rfl) rfl
 go_enter Tryz.func190, Tryz.ntmps190
 go_wp2
 go_loopg [8] k (fun kq v8 w' => ∃ (x0_1 : List (S113)) (x8_1 : Int), v8 = .int .i64 x8_1 ∧ Aside0 (api_Tag_with_168_190.l0 kq x0_1 a1 a2 x8_1 = some r) ∧ Aside0 (kq ≤ k) ∧ Aside0 (Kd.R k113 113 w' w0.heap.size (fun k_ => (P0_ k_ ∨ w.heap.size ≤ k_)) u9000_ x0_1) ∧ Aside0 (Kept w w' (fun k_ => P0_ k_)) ∧ Aside0 (Below w0.heap.size w0 w'))
 case atStart => exact ⟨(l0), (wrap64 (a1 + 1)), rs_, H', ⟨Nat.le_refl _⟩, ⟨uR HO0.out⟩, ⟨by repeat (first | (with_reducible first | exact HK.out | apply Kept.alloc | apply Kept.drewN | apply Kept.drew) | exact HK.out)⟩, ⟨uW HB.out⟩⟩
 case round =>
  clear H'
  obtain ⟨x0_1, x8_1, rfl, HA, HK1, HO_0, HK, HB⟩ := hrel
  cases gk with
  | zero => exact absurd HA.out (by simp [api_Tag_with_168_190.l0])
  | succ k1 =>
   have H := HA.out
   clear HA
   simp only [api_Tag_with_168_190.l0] at H
   by_cases c4 : x8_1 < a2
   ·
    rw [if_pos c4] at H
    have c4b0 : decide (x8_1 < a2) = true := decide_eq_true c4
    clear c4
    have H' := Aside0.mk H
    clear H
    go_wp2
    go_loopg [9] k1 (fun kq v9 w' => ∃ (x0_2 : List (S113)) (x9_2 : Int), v9 = .int .i64 x9_2 ∧ Aside0 (api_Tag_with_168_190.l1 kq x0_2 a1 a2 x8_1 x9_2 = some r) ∧ Aside0 (kq ≤ k1) ∧ Aside0 (Kd.R k113 113 w' w0.heap.size (fun k_ => (P0_ k_ ∨ w.heap.size ≤ k_)) u9000_ x0_2) ∧ Aside0 (Kept w w' (fun k_ => P0_ k_)) ∧ Aside0 (Below w0.heap.size w0 w'))
    case atStart => exact ⟨(x0_1), (x8_1), rs_, H', ⟨Nat.le_refl _⟩, ⟨uR HO_0.out⟩, ⟨by repeat (first | (with_reducible first | exact HK.out | apply Kept.alloc | apply Kept.drewN | apply Kept.drew) | exact HK.out)⟩, ⟨uW HB.out⟩⟩
    case round =>
     clear H'
     try clear p2 p2
     try clear c4
     try clear c4b0
     obtain ⟨x0_2, x9_2, rfl, HA, HK2, HO_0, HK, HB⟩ := hrel
     cases gk with
     | zero => exact absurd HA.out (by simp [api_Tag_with_168_190.l1])
     | succ k2 =>
      have H := HA.out
      clear HA
      simp only [api_Tag_with_168_190.l1] at H
      by_cases c5 : x9_2 > a1
      ·
       rw [if_pos c5] at H
       have c5b0 : decide (a1 < x9_2) = true := decide_eq_true c5
       clear c5
       obtain ⟨c6b0, H⟩ := gdd H
       obtain ⟨c7b0, H⟩ := gdd H
       obtain ⟨ji8, hji8⟩ : ∃ j_ : Int, (wrap64 (x9_2 - 1)) = j_ := ⟨_, rfl⟩
       (first | rw [hji8] at H | simp only [hji8] at H)
       have hji8w : (IntKind.i64.wrap (x9_2 - 1)) = ji8 := (i64_w _).trans hji8
       obtain ⟨c9b0, H⟩ := gdd H
       obtain ⟨c10b0, H⟩ := gdd H
       obtain ⟨t216, A11, H⟩ := bs H
       try dsimp only at H
       by_cases c12 : t216 < 0
       ·
        rw [if_pos c12] at H
        have c12b0 : decide (t216 < 0) = true := decide_eq_true c12
        clear c12
        obtain ⟨y219, hy219⟩ : ∃ y_ : List (S113), y_ = (x0_2.set (x9_2 : Int).toNat (⟨(rd_T113 x0_2 (ji8)).f0, (rd_T113 x0_2 (ji8)).f1⟩ : S113)) := ⟨_, rfl⟩
        replace H : (api_Tag_with_168_190.l1 k2 (y219.set ((ji8) : Int).toNat (⟨(rd_T113 x0_2 x9_2).f0, (rd_T113 x0_2 x9_2).f1⟩ : S113)) a1 a2 x8_1 ji8) = some r := by first | (rw [hy219]; with_reducible exact H) | (have H2_ := (Option.bind_some _ _).symm.trans H; rw [hy219]; with_reducible exact H2_) | (have H2_ := (Option.bind_some _ _).symm.trans H; with_reducible exact H2_) | with_reducible exact H | (rw [hy219]; exact H) | exact H
        have Ny219 := Aside0.mk hy219
        clear hy219
        obtain ⟨y220, hy220⟩ : ∃ y_ : List (S113), y_ = (y219.set ((ji8) : Int).toNat (⟨(rd_T113 x0_2 x9_2).f0, (rd_T113 x0_2 x9_2).f1⟩ : S113)) := ⟨_, rfl⟩
        replace H : (api_Tag_with_168_190.l1 k2 y220 a1 a2 x8_1 ji8) = some r := by first | (rw [hy220]; with_reducible exact H) | (have H2_ := (Option.bind_some _ _).symm.trans H; rw [hy220]; with_reducible exact H2_) | (have H2_ := (Option.bind_some _ _).symm.trans H; with_reducible exact H2_) | with_reducible exact H | (rw [hy220]; exact H) | exact H
        have Ny220 := Aside0.mk hy220
        clear hy220
        have H' := Aside0.mk H
        clear H
        try go_wp2
        replace HO_0 := Aside0.mk (Kd.R_drew HO_0.out)
        replace HK := Aside0.mk (Kept.drew HK.out)
        replace HB := Aside0.mk (below_drew1 HB.out)
        obtain ⟨Ao16, co16, eo16⟩ := Kd.R_slice HO_0.out
        (first | subst eo16 | (injection eo16 with f1_ f2_ f3_; have f4_ := f1_.symm; have f5_ := f3_.symm; clear f1_ f2_ f3_; subst f4_; subst f5_))
        have p214 : 0 ≤ (x9_2 : Int) := od
        have q214 : x9_2 < (x0_2.length : Int) := od
        obtain ⟨ad214, e214, hx214_0, hx214_1⟩ := at_T113 (Kd.R_reads' HO_0.out).2.2 x9_2 p214 q214
        cases e214
        replace p214 := eq_true p214
        replace q214 := eq_true q214
        have p215 : 0 ≤ ((ji8) : Int) := od
        have q215 : (ji8) < (x0_2.length : Int) := od
        obtain ⟨ad215, e215, hx215_0, hx215_1⟩ := at_T113 (Kd.R_reads' HO_0.out).2.2 (ji8) p215 q215
        obtain rfl : ad214 = ad215 := (by injection e215)
        replace p215 := eq_true p215
        replace q215 := eq_true q215
        refine start_ (n := 17) (S := fun w' => w'.cell? (ad214.add ((x9_2).toNat * 2)) = some (.string ((rd_T113 x0_2 x9_2).f0)) ∧ w'.cell? ⟨(ad214.add ((x9_2).toNat * 2)).block, (ad214.add ((x9_2).toNat * 2)).off + 1, none⟩ = some (.string ((rd_T113 x0_2 x9_2).f1)) ∧ w'.cell? (ad214.add (((ji8)).toNat * 2)) = some (.string ((rd_T113 x0_2 (ji8)).f0)) ∧ w'.cell? ⟨(ad214.add (((ji8)).toNat * 2)).block, (ad214.add (((ji8)).toNat * 2)).off + 1, none⟩ = some (.string ((rd_T113 x0_2 (ji8)).f1))) (ds := []) _ (by kernel_rfl) rfl rfl ⟨hx214_0, hx214_1, hx215_0, hx215_1⟩ (fun hHeld => ?_); refine with_tabW api_Tag_with_168_190.tab4 api_Tag_with_168_190.bits4 (fun HT_ HW_ => ?_)
        generalize wr.drew = w15 at HO_0 HK HB hx214_0 hx214_1 hx215_0 hx215_1 hHeld ⊢
        refine p1 0 (some 18) ?_
        refine p1 1 (some 19) ?_
        refine p1 2 (some 20) ?_
        refine p1 3 (some 21) ?_
        refine p1 4 (some 22) ?_
        refine p1 5 (some 23) ?_
        refine p1 6 (some 24) ?_
        refine p1 7 (some 25) ?_
        refine p1 9 (some 27) ?_
        refine p1 10 (some 28) ?_
        refine p1 11 (some 29) ?_
        refine p1 12 (some 30) ?_
        refine t1 8 (some 26) rfl rfl hHeld (Or.inl ⟨by rfl, by rintro w' ⟨s0, s1, s2, s3⟩; go_simp; with_reducible rfl⟩) ?_
        refine t1 13 (some 31) rfl rfl hHeld (Or.inl ⟨by rfl, by rintro w' ⟨s0, s1, s2, s3⟩; go_simp; with_reducible rfl⟩) ?_
        refine o1 14 (some 32) rfl rfl (fun K hK => ?_)
        refine api_Tag_with_168_190.goesV_ Tryz.func168 (by kernel_rfl) rfl #[.agg #[.string ((rd_T113 x0_2 x9_2).f0), .string ((rd_T113 x0_2 x9_2).f1)], .agg #[.string ((rd_T113 x0_2 (ji8)).f0), .string ((rd_T113 x0_2 (ji8)).f1)]] (by rfl) rfl rfl (by rfl) (by (try simp only [List.map_toArray, List.map_cons, List.map_nil]); first | done | (simp only [hji8]; rfl) | rfl | (simp only [List.length_drop, List.length_take]; rfl)) ?_
        with_reducible refine (tag_order.calls ((rd_T113 x0_2 x9_2).f0) ((rd_T113 x0_2 x9_2).f1) ((rd_T113 x0_2 (ji8)).f0) ((rd_T113 x0_2 (ji8)).f1) t216 _ A11.out).mono ?_
        rintro e w17 ⟨rfl, hb⟩
        have HS0_ := (hb.cell (World.block_lt_of_cell? _ _ (hHeld.1))).trans (hHeld.1)
        have HS1_ := (hb.cell (World.block_lt_of_cell? _ _ (hHeld.2.1))).trans (hHeld.2.1)
        have HS2_ := (hb.cell (World.block_lt_of_cell? _ _ (hHeld.2.2.1))).trans (hHeld.2.2.1)
        have HS3_ := (hb.cell (World.block_lt_of_cell? _ _ (hHeld.2.2.2))).trans (hHeld.2.2.2)
        refine ⟨_, rfl, ?_⟩
        replace HO_0 := cR HO_0 hb
        replace HK := Aside0.mk (Kept.below (S := (fun k_ => P0_ k_)) (by repeat (first | (with_reducible first | exact HK.out | apply Kept.alloc | apply Kept.drewN | apply Kept.drew) | exact HK.out)) hb)
        replace HB := cW HB hb
        (try clear hb)
        refine hK.out _ _ ⟨HS0_, HS1_, HS2_, HS3_⟩ (fun hHeld => ?_)
        clear hK K
        refine norm_ (a' := ?_) ?_ ?_
        rotate_left
        ·
         show Act.put _ (some 32) _ = _
         simp only [Act.put, List.setIfInBounds_toArray, List.set_cons_zero, List.set_cons_succ, i64_w, i32_w]
         rfl
        refine p1 15 (some 33) ?_
        refine p1 16 (some 34) ?_
        refine done_ (done_of HT_.out (by kernel_rfl)) ?_
        try go_wp2
        replace HO_0 := Aside0.mk (Kd.R_drew HO_0.out)
        replace HK := Aside0.mk (Kept.drew HK.out)
        replace HB := Aside0.mk (below_drew1 HB.out)
        have p217 : 0 ≤ ((ji8) : Int) := od
        have q217 : (ji8) < (x0_2.length : Int) := od
        obtain ⟨ad217, e217, hx217_0, hx217_1⟩ := at_T113 (Kd.R_reads' HO_0.out).2.2 (ji8) p217 q217
        obtain rfl : ad214 = ad217 := (by injection e217)
        replace p217 := eq_true p217
        replace q217 := eq_true q217
        have p218 : 0 ≤ (x9_2 : Int) := od
        have q218 : x9_2 < (x0_2.length : Int) := od
        obtain ⟨ad218, e218, hx218_0, hx218_1⟩ := at_T113 (Kd.R_reads' HO_0.out).2.2 x9_2 p218 q218
        obtain rfl : ad214 = ad218 := (by injection e218)
        replace p218 := eq_true p218
        replace q218 := eq_true q218
        have p13 : 0 ≤ (x9_2 : Int) := od
        have q13 : (x9_2 : Int) < ((x0_2.length : Int) : Int) := od
        obtain ⟨go13, co13, eo13, gb13, gl13, cl13, HG13⟩ := Kd.R_form HO_0.out (by omega)
        (first | cases eo13 | (injection eo13 with ea_ en_ ec_; (first | subst ea_ | (injection ea_ with ea_; subst ea_)); subst ec_; clear en_))
        have GB13 := Aside0.mk gb13
        have GG13 := Aside0.mk HG13
        clear gb13 gl13 HG13
        have HMgo13 := Aside0.mk (show (P0_ go13 ∨ w.heap.size ≤ go13) from (HO_0.out.1 _ rfl))
        (first | simp only [add_plain] at hx214_0 | skip)
        (first | simp only [add_plain] at hx214_1 | skip)
        (first | simp only [add_plain] at hx215_0 | skip)
        (first | simp only [add_plain] at hx215_1 | skip)
        (first | simp only [add_plain] at hx217_0 | skip)
        (first | simp only [add_plain] at hx217_1 | skip)
        (first | simp only [add_plain] at hx218_0 | skip)
        (first | simp only [add_plain] at hx218_1 | skip)
        obtain ⟨ce13, hcl13, hM13, hcc13, hfr13⟩ := Kd.R_elem HO_0.out z113 (x9_2 : Int) p13 q13
        obtain rfl := k113_openM hM13
        have hx13_0 : World.cell? _ ⟨go13, (x9_2 : Int).toNat * 2, none⟩ = some (.string ((rd_T113 x0_2 x9_2).f0)) := hcc13 0 _ rfl
        have hx13_1 : World.cell? _ ⟨go13, (x9_2 : Int).toNat * 2 + 1, none⟩ = some (.string ((rd_T113 x0_2 x9_2).f1)) := hcc13 1 _ rfl
        have hf13_0 : World.frozen? _ ⟨go13, (x9_2 : Int).toNat * 2, none⟩ = false := hfr13 0
        have hf13_1 : World.frozen? _ ⟨go13, (x9_2 : Int).toNat * 2 + 1, none⟩ = false := hfr13 1
        clear hcl13 hcc13 hfr13 hM13
        replace p13 := eq_true p13
        replace q13 := eq_true q13
        obtain ⟨ce19, hcl19, hM19, hcc19, hfr19⟩ := Kd.R_elem HO_0.out z113 (x9_2 : Int) (od) (by have h_ : (x9_2 : Int) < ((x0_2.length : Int) : Int) := od; first | exact h_ | (have e_ := (Kd.R_reads' HO_0.out).1; omega) | simpa using h_)
        obtain rfl := k113_openM hM19
        have HP19 := (Kd.R_seg HO_0.out (x9_2 : Int) (od) (by have h_ : (x9_2 : Int) < ((x0_2.length : Int) : Int) := od; first | exact h_ | (have e_ := (Kd.R_reads' HO_0.out).1; omega) | simpa using h_) (seg := [.string ((rd_T113 x0_2 (ji8)).f0), .string ((rd_T113 x0_2 (ji8)).f1)]) (j := 0) hcl19 hcc19 (show 2 ≤ 2 from by decide) (x' := (⟨(rd_T113 x0_2 (ji8)).f0, (rd_T113 x0_2 (ji8)).f1⟩ : S113)) (k113_mkM _ _ _ (⟨(rd_T113 x0_2 (ji8)).f0, (rd_T113 x0_2 (ji8)).f1⟩ : S113) ) (fun _ hk => hk)).1
        rw [← Ny219.out] at HP19
        have HQ19 := Aside0.mk HP19
        clear hcl19 hcc19 hfr19 hM19 HP19
        have p14 : 0 ≤ ((ji8) : Int) := od
        have q14 : ((ji8) : Int) < ((x0_2.length : Int) : Int) := od
        obtain ⟨ce14, hcl14, hM14, hcc14, hfr14⟩ := Kd.R_elem HQ19.out z113 ((ji8) : Int) p14 q14
        obtain rfl := k113_openM hM14
        have hx14_0 : World.cell? _ ⟨go13, ((ji8) : Int).toNat * 2, none⟩ = some (.string ((rd_T113 y219 (ji8)).f0)) := hcc14 0 _ rfl
        have hx14_1 : World.cell? _ ⟨go13, ((ji8) : Int).toNat * 2 + 1, none⟩ = some (.string ((rd_T113 y219 (ji8)).f1)) := hcc14 1 _ rfl
        have hf14_0 : World.frozen? _ ⟨go13, ((ji8) : Int).toNat * 2, none⟩ = false := hfr14 0
        have hf14_1 : World.frozen? _ ⟨go13, ((ji8) : Int).toNat * 2 + 1, none⟩ = false := hfr14 1
        clear hcl14 hcc14 hfr14 hM14
        replace p14 := eq_true p14
        replace q14 := eq_true q14
        obtain ⟨ce20, hcl20, hM20, hcc20, hfr20⟩ := Kd.R_elem HQ19.out z113 ((ji8) : Int) (od) (by have h_ : ((ji8) : Int) < ((x0_2.length : Int) : Int) := od; first | exact h_ | (have e_ := (Kd.R_reads' HO_0.out).1; omega) | simpa using h_)
        obtain rfl := k113_openM hM20
        have HP20 := (Kd.R_seg HQ19.out ((ji8) : Int) (od) (by have h_ : ((ji8) : Int) < ((x0_2.length : Int) : Int) := od; first | exact h_ | (have e_ := (Kd.R_reads' HO_0.out).1; omega) | simpa using h_) (seg := [.string ((rd_T113 x0_2 x9_2).f0), .string ((rd_T113 x0_2 x9_2).f1)]) (j := 0) hcl20 hcc20 (show 2 ≤ 2 from by decide) (x' := (⟨(rd_T113 x0_2 x9_2).f0, (rd_T113 x0_2 x9_2).f1⟩ : S113)) (k113_mkM _ _ _ (⟨(rd_T113 x0_2 x9_2).f0, (rd_T113 x0_2 x9_2).f1⟩ : S113) ) (fun _ hk => hk)).1
        rw [← Ny220.out] at HP20
        have HQ20 := Aside0.mk HP20
        clear hcl20 hcc20 hfr20 hM20 HP20
        have hnq_ : ji8.toNat ≠ x9_2.toNat := by have a_ := of_eq_true p14; have b_ := of_eq_true p13; have c_ := hji8; unfold wrap64 at c_; omega
        have hnq1_ : (ji8.toNat * 2 = x9_2.toNat * 2) = False := eq_false (by omega)
        have hnq2_ : (x9_2.toNat * 2 = ji8.toNat * 2) = False := eq_false (by omega)
        have hnq3_ : (ji8.toNat = x9_2.toNat) = False := eq_false hnq_
        have hnq4_ : (x9_2.toNat = ji8.toNat) = False := eq_false (Ne.symm hnq_)
        obtain ⟨_, _, _, _, hfrq_⟩ := Kd.R_elem HO_0.out z113 ((ji8) : Int) (of_eq_true p14) (of_eq_true q14)
        have hfq_0 : World.frozen? _ ⟨go13, ((ji8) : Int).toNat * 2, none⟩ = false := hfrq_ 0
        have hfq_1 : World.frozen? _ ⟨go13, ((ji8) : Int).toNat * 2 + 1, none⟩ = false := hfrq_ 1
        clear hfrq_
        refine start_ (n := 18) (S := fun w' => w'.cell? ⟨go13, (((ji8)).toNat * 2), none⟩ = some (.string ((rd_T113 x0_2 (ji8)).f0)) ∧ w'.cell? ⟨go13, (((ji8)).toNat * 2) + 1, none⟩ = some (.string ((rd_T113 x0_2 (ji8)).f1)) ∧ w'.cell? ⟨go13, ((x9_2).toNat * 2), none⟩ = some (.string ((rd_T113 x0_2 x9_2).f0)) ∧ w'.cell? ⟨go13, ((x9_2).toNat * 2) + 1, none⟩ = some (.string ((rd_T113 x0_2 x9_2).f1))) (ds := [15, 17]) _ (by kernel_rfl) rfl rfl ⟨hx217_0, hx217_1, hx218_0, hx218_1⟩ (fun hHeld => ?_); refine with_tabW api_Tag_with_168_190.tab6 api_Tag_with_168_190.bits6 (fun HT_ HW_ => ?_)
        generalize w17.drew = w18 at HO_0 HK HB GG13 HQ19 HQ20 hf13_0 hf13_1 hf14_0 hf14_1 hx13_0 hx13_1 hx14_0 hx14_1 hx214_0 hx214_1 hx215_0 hx215_1 hx217_0 hx217_1 hx218_0 hx218_1 hfq_0 hfq_1 hHeld ⊢
        refine p1 0 (some 37) ?_
        refine p1 1 (some 38) ?_
        refine p1 2 (some 39) ?_
        refine p1 3 (some 40) ?_
        refine p1 4 (some 41) ?_
        refine p1 5 (some 42) ?_
        refine p1 6 (some 43) ?_
        refine p1 7 (some 44) ?_
        refine p1 8 (some 45) ?_
        refine p1 10 (some 47) ?_
        refine p1 11 (some 48) ?_
        refine p1 12 (some 49) ?_
        refine t1 9 (some 46) rfl rfl hHeld (Or.inl ⟨by rfl, by rintro w' ⟨s0, s1, s2, s3⟩; go_simp; with_reducible rfl⟩) ?_
        refine t1 13 (some 50) rfl rfl hHeld (Or.inl ⟨by rfl, by rintro w' ⟨s0, s1, s2, s3⟩; go_simp; with_reducible rfl⟩) ?_
        refine p1 14 (some 51) ?_
        refine l1_ 15 none rfl rfl (fun K hK => ?_)
        refine skip_ (w1 := ?_) (by rfl) rfl ?_ ?_
        rotate_left
        ·
         go_simp
         rfl
        refine hK.out _ _ ?_
        clear hK K
        refine p1 16 (some 52) ?_
        refine l1_ 17 none rfl rfl (fun K hK => ?_)
        refine skip_ (w1 := ?_) (by rfl) rfl ?_ ?_
        rotate_left
        ·
         go_simp
         rfl
        refine hK.out _ _ ?_
        clear hK K
        refine done_ (done_of HT_.out (by kernel_rfl)) ?_
        try go_wp2
        go_roundg k2
        case measure => have := HK1.out; have := HK2.out; omega
        case rel => exact ⟨(y220), (ji8), (by first | rfl | (simp; done) | (simp only [← hji8] <;> (first | rfl | simp)) | (simp [*]; done)), H', ⟨by have := HK1.out; have := HK2.out; omega⟩, ⟨by (with_reducible repeat (first | apply Kd.R_alloc | apply Kd.R_drewN | apply Kd.R_drew)); exact HQ20.out⟩, ⟨by repeat (first | (with_reducible first | exact HK.out | apply Kept.alloc | apply Kept.drewN | apply Kept.drew | refine Kept.setCell ?_ HMgo13.out _ | refine Kept.setCell ?_ HMgo13.out _ | refine Kept.setCell ?_ HMgo13.out _ | refine Kept.setCell ?_ HMgo13.out _) | exact HK.out)⟩, ⟨by repeat (first | (with_reducible first | exact HB.out | apply below_alloc | apply pw_below_drewN | apply below_drew1 | refine below_set ?_ GB13.out | refine below_set ?_ GB13.out | refine below_set ?_ GB13.out | refine below_set ?_ GB13.out) | exact HB.out)⟩⟩
       ·
        rw [if_neg c12] at H
        have c12b0 : decide (t216 < 0) = false := decide_eq_false c12
        clear c12
        have H' := Aside0.mk H
        clear H
        try go_wp2
        replace HO_0 := Aside0.mk (Kd.R_drew HO_0.out)
        replace HK := Aside0.mk (Kept.drew HK.out)
        replace HB := Aside0.mk (below_drew1 HB.out)
        obtain ⟨Ao22, co22, eo22⟩ := Kd.R_slice HO_0.out
        (first | subst eo22 | (injection eo22 with f1_ f2_ f3_; have f4_ := f1_.symm; have f5_ := f3_.symm; clear f1_ f2_ f3_; subst f4_; subst f5_))
        have p214 : 0 ≤ (x9_2 : Int) := od
        have q214 : x9_2 < (x0_2.length : Int) := od
        obtain ⟨ad214, e214, hx214_0, hx214_1⟩ := at_T113 (Kd.R_reads' HO_0.out).2.2 x9_2 p214 q214
        cases e214
        replace p214 := eq_true p214
        replace q214 := eq_true q214
        have p215 : 0 ≤ ((ji8) : Int) := od
        have q215 : (ji8) < (x0_2.length : Int) := od
        obtain ⟨ad215, e215, hx215_0, hx215_1⟩ := at_T113 (Kd.R_reads' HO_0.out).2.2 (ji8) p215 q215
        obtain rfl : ad214 = ad215 := (by injection e215)
        replace p215 := eq_true p215
        replace q215 := eq_true q215
        refine start_ (n := 17) (S := fun w' => w'.cell? (ad214.add ((x9_2).toNat * 2)) = some (.string ((rd_T113 x0_2 x9_2).f0)) ∧ w'.cell? ⟨(ad214.add ((x9_2).toNat * 2)).block, (ad214.add ((x9_2).toNat * 2)).off + 1, none⟩ = some (.string ((rd_T113 x0_2 x9_2).f1)) ∧ w'.cell? (ad214.add (((ji8)).toNat * 2)) = some (.string ((rd_T113 x0_2 (ji8)).f0)) ∧ w'.cell? ⟨(ad214.add (((ji8)).toNat * 2)).block, (ad214.add (((ji8)).toNat * 2)).off + 1, none⟩ = some (.string ((rd_T113 x0_2 (ji8)).f1))) (ds := []) _ (by kernel_rfl) rfl rfl ⟨hx214_0, hx214_1, hx215_0, hx215_1⟩ (fun hHeld => ?_); refine with_tabW api_Tag_with_168_190.tab4 api_Tag_with_168_190.bits4 (fun HT_ HW_ => ?_)
        generalize wr.drew = w21 at HO_0 HK HB hx214_0 hx214_1 hx215_0 hx215_1 hHeld ⊢
        refine p1 0 (some 18) ?_
        refine p1 1 (some 19) ?_
        refine p1 2 (some 20) ?_
        refine p1 3 (some 21) ?_
        refine p1 4 (some 22) ?_
        refine p1 5 (some 23) ?_
        refine p1 6 (some 24) ?_
        refine p1 7 (some 25) ?_
        refine p1 9 (some 27) ?_
        refine p1 10 (some 28) ?_
        refine p1 11 (some 29) ?_
        refine p1 12 (some 30) ?_
        refine t1 8 (some 26) rfl rfl hHeld (Or.inl ⟨by rfl, by rintro w' ⟨s0, s1, s2, s3⟩; go_simp; with_reducible rfl⟩) ?_
        refine t1 13 (some 31) rfl rfl hHeld (Or.inl ⟨by rfl, by rintro w' ⟨s0, s1, s2, s3⟩; go_simp; with_reducible rfl⟩) ?_
        refine o1 14 (some 32) rfl rfl (fun K hK => ?_)
        refine api_Tag_with_168_190.goesV_ Tryz.func168 (by kernel_rfl) rfl #[.agg #[.string ((rd_T113 x0_2 x9_2).f0), .string ((rd_T113 x0_2 x9_2).f1)], .agg #[.string ((rd_T113 x0_2 (ji8)).f0), .string ((rd_T113 x0_2 (ji8)).f1)]] (by rfl) rfl rfl (by rfl) (by (try simp only [List.map_toArray, List.map_cons, List.map_nil]); first | done | (simp only [hji8]; rfl) | rfl | (simp only [List.length_drop, List.length_take]; rfl)) ?_
        with_reducible refine (tag_order.calls ((rd_T113 x0_2 x9_2).f0) ((rd_T113 x0_2 x9_2).f1) ((rd_T113 x0_2 (ji8)).f0) ((rd_T113 x0_2 (ji8)).f1) t216 _ A11.out).mono ?_
        rintro e w23 ⟨rfl, hb⟩
        have HS0_ := (hb.cell (World.block_lt_of_cell? _ _ (hHeld.1))).trans (hHeld.1)
        have HS1_ := (hb.cell (World.block_lt_of_cell? _ _ (hHeld.2.1))).trans (hHeld.2.1)
        have HS2_ := (hb.cell (World.block_lt_of_cell? _ _ (hHeld.2.2.1))).trans (hHeld.2.2.1)
        have HS3_ := (hb.cell (World.block_lt_of_cell? _ _ (hHeld.2.2.2))).trans (hHeld.2.2.2)
        refine ⟨_, rfl, ?_⟩
        replace HO_0 := cR HO_0 hb
        replace HK := Aside0.mk (Kept.below (S := (fun k_ => P0_ k_)) (by repeat (first | (with_reducible first | exact HK.out | apply Kept.alloc | apply Kept.drewN | apply Kept.drew) | exact HK.out)) hb)
        replace HB := cW HB hb
        (try clear hb)
        refine hK.out _ _ ⟨HS0_, HS1_, HS2_, HS3_⟩ (fun hHeld => ?_)
        clear hK K
        refine norm_ (a' := ?_) ?_ ?_
        rotate_left
        ·
         show Act.put _ (some 32) _ = _
         simp only [Act.put, List.setIfInBounds_toArray, List.set_cons_zero, List.set_cons_succ, i64_w, i32_w]
         rfl
        refine p1 15 (some 33) ?_
        refine p1 16 (some 34) ?_
        refine done_ (done_of HT_.out (by kernel_rfl)) ?_
        try go_wp2
        go_roundg k2
        case measure => have := HK1.out; have := HK2.out; omega
        case rel => exact ⟨(x0_2), (wrap64 (x8_1 + 1)), rs_, H', ⟨by have := HK1.out; have := HK2.out; omega⟩, ⟨uR HO_0.out⟩, ⟨by repeat (first | (with_reducible first | exact HK.out | apply Kept.alloc | apply Kept.drewN | apply Kept.drew) | exact HK.out)⟩, ⟨uW HB.out⟩⟩
      ·
       rw [if_neg c5] at H
       have c5b0 : decide (a1 < x9_2) = false := decide_eq_false c5
       clear c5
       have H' := Aside0.mk H
       clear H
       try go_wp2
       replace HO_0 := Aside0.mk (Kd.R_drew HO_0.out)
       replace HK := Aside0.mk (Kept.drew HK.out)
       replace HB := Aside0.mk (below_drew1 HB.out)
       refine start_ (n := 17) (S := fun w' => True) (ds := []) _ (by kernel_rfl) rfl rfl trivial (fun hHeld => ?_); refine with_tabW api_Tag_with_168_190.tab4 api_Tag_with_168_190.bits4 (fun HT_ HW_ => ?_)
       generalize wr.drew = w24 at HO_0 HK HB hHeld ⊢
       refine p1 0 (some 18) ?_
       refine p1 1 (some 19) ?_
       refine p1 2 (some 20) ?_
       refine p1 3 (some 21) ?_
       refine p2 4 (some 22) ?_
       refine p2 5 (some 23) ?_
       refine p2 6 (some 24) ?_
       refine p2 7 (some 25) ?_
       refine p2 8 (some 26) ?_
       refine p2 9 (some 27) ?_
       refine p2 10 (some 28) ?_
       refine p2 11 (some 29) ?_
       refine p2 12 (some 30) ?_
       refine p2 13 (some 31) ?_
       refine p2 14 (some 32) ?_
       refine p2 15 (some 33) ?_
       refine p1 16 (some 34) ?_
       refine done_ (done_of HT_.out (by kernel_rfl)) ?_
       try go_wp2
       go_roundg k2
       case measure => have := HK1.out; have := HK2.out; omega
       case rel => exact ⟨(x0_2), (wrap64 (x8_1 + 1)), rs_, H', ⟨by have := HK1.out; have := HK2.out; omega⟩, ⟨uR HO_0.out⟩, ⟨by repeat (first | (with_reducible first | exact HK.out | apply Kept.alloc | apply Kept.drewN | apply Kept.drew) | exact HK.out)⟩, ⟨uW HB.out⟩⟩
   ·
    rw [if_neg c4] at H
    have c4b0 : decide (x8_1 < a2) = false := decide_eq_false c4
    clear c4
    obtain rfl := Option.some.inj H
    go_wp2
    first | go_end0 | ((try simp only [Exit.inBlock, Exit.then]); refine bodyPost_ret (results_none rfl _ _ _) rfl ?_)
    exact ⟨re_, uR HO_0.out, uW HB.out, by repeat (first | (with_reducible first | exact HK.out | apply Kept.alloc | apply Kept.drewN | apply Kept.drew) | exact HK.out)⟩
end Go.Proofs.YteckidchnicjeaaGreatDoor.X
