/- Printed by a program of this session's own: what functions of the program compute, and that the machine computes it. No condition of its own. -/
import Derived.Test.YteckidchnicjeaaGreatDoorM3
import Derived.Test.YteckidchnicjeaaGreatDoorM8
namespace Go.Proofs.YteckidchnicjeaaGreatDoor.X
open Go.RowKit Go.Proofs.YteckidchnicjeaaGreatDoorW.PrintWords Go.Proofs.YteckidchnicjeaaGreatDoorW.PrintLast Go.Proofs.YteckidchnicjeaaGreatDoorW.PrintMore
attribute [local go_sem] max2_int min2_int max_two min_two max_three min_three max_four min_four
set_option linter.unusedVariables false
set_option linter.unusedSimpArgs false
set_option maxHeartbeats 8000000
set_option maxRecDepth 100000
def r23_Message.f (k : Nat) (a0_0 : Int) (a0_1 : Int) (a0_2 : Int) (l0_3 : List (S60)) (l0_4 : List (S78)) : Option (ByteArray) := (r01_Number.f k a0_1).bind fun t421 => (if t421.size + 1 ≤ 9223372036854775807 then ((r01_Number.f k a0_2).bind fun t422 => (if (t421 ++ (⟨#[32]⟩ : ByteArray)).size + t422.size ≤ 9223372036854775807 then (if ((t421 ++ (⟨#[32]⟩ : ByteArray)) ++ t422).size + 1 ≤ 9223372036854775807 then (if a0_0 = 1 then (if 6 + (((t421 ++ (⟨#[32]⟩ : ByteArray)) ++ t422) ++ (⟨#[32]⟩ : ByteArray)).size ≤ 9223372036854775807 then ((r08_Text.f k l0_3).bind fun t423 => (if ((⟨#[105, 109, 97, 103, 101, 32]⟩ : ByteArray) ++ (((t421 ++ (⟨#[32]⟩ : ByteArray)) ++ t422) ++ (⟨#[32]⟩ : ByteArray))).size + t423.size ≤ 9223372036854775807 then (some (((⟨#[105, 109, 97, 103, 101, 32]⟩ : ByteArray) ++ (((t421 ++ (⟨#[32]⟩ : ByteArray)) ++ t422) ++ (⟨#[32]⟩ : ByteArray))) ++ t423)) else (none))) else (none)) else (if a0_0 = 2 then (if 5 + (((t421 ++ (⟨#[32]⟩ : ByteArray)) ++ t422) ++ (⟨#[32]⟩ : ByteArray)).size ≤ 9223372036854775807 then ((r09_Text.f k l0_4).bind fun t424 => (if ((⟨#[100, 105, 102, 102, 32]⟩ : ByteArray) ++ (((t421 ++ (⟨#[32]⟩ : ByteArray)) ++ t422) ++ (⟨#[32]⟩ : ByteArray))).size + t424.size ≤ 9223372036854775807 then (some (((⟨#[100, 105, 102, 102, 32]⟩ : ByteArray) ++ (((t421 ++ (⟨#[32]⟩ : ByteArray)) ++ t422) ++ (⟨#[32]⟩ : ByteArray))) ++ t424)) else (none))) else (none)) else (if a0_0 = 3 then (if 7 + (((t421 ++ (⟨#[32]⟩ : ByteArray)) ++ t422) ++ (⟨#[32]⟩ : ByteArray)).size ≤ 9223372036854775807 then ((r08_Text.f k l0_3).bind fun t425 => (if ((⟨#[114, 101, 115, 121, 110, 99, 32]⟩ : ByteArray) ++ (((t421 ++ (⟨#[32]⟩ : ByteArray)) ++ t422) ++ (⟨#[32]⟩ : ByteArray))).size + t425.size ≤ 9223372036854775807 then (some (((⟨#[114, 101, 115, 121, 110, 99, 32]⟩ : ByteArray) ++ (((t421 ++ (⟨#[32]⟩ : ByteArray)) ++ t422) ++ (⟨#[32]⟩ : ByteArray))) ++ t425)) else (none))) else (none)) else (some (⟨#[]⟩ : ByteArray))))) else (none)) else (none))) else (none))
theorem r23_Message.mono : ∀ a0 a1 a2 a3 a4 k, LeO (r23_Message.f k a0 a1 a2 a3 a4) (r23_Message.f (k + 1) a0 a1 a2 a3 a4) := by
 intro a0 a1 a2 a3 a4 k
 unfold r23_Message.f
 exact lo
instance r23_Message.mI {a0 a1 a2 a3 a4 k} : LeC (r23_Message.f k a0 a1 a2 a3 a4) (r23_Message.f (k + 1) a0 a1 a2 a3 a4) := ⟨r23_Message.mono _ _ _ _ _ _⟩
def r23_Message.T1 : Bool × List (List Nat × List Nat) := (true, [([], []), ([0], [0]), ([1], [1]), ([2], [2]), ([], []), ([4], [4]), ([5, 2], [5]), ([3, 6], [3, 6]), ([7], [7]), ([8, 6, 0, 1, 2, 3, 4, 5, 6, 7, 8], [8])])
def r23_Message.B1 : List Nat := [0, 1, 3, 7, 0, 16, 55, 127, 255, 511]
theorem r23_Message.tab1 : rtab .any (opsOf Tryz.f21 1) = r23_Message.T1 := by kernel_rfl
theorem r23_Message.bits1 : waitsOk r23_Message.T1.2 r23_Message.B1 = true := by kernel_rfl
theorem r23_Message.calls (k : Nat) (a0_0 : Int) (a0_1 : Int) (a0_2 : Int) (A0_3 : Option Addr) (c0_3 : Nat) (l0_3 : List (S60)) (A0_4 : Option Addr) (c0_4 : Nat) (l0_4 : List (S78)) (r : ByteArray) (w : World) (hr0_3 : Kd.C k60 w A0_3 l0_3.length l0_3) (hc0_3 : l0_3.length ≤ c0_3) (hr0_4 : Kd.C k78 w A0_4 l0_4.length l0_4) (hc0_4 : l0_4.length ≤ c0_4) (h : r23_Message.f k a0_0 a0_1 a0_2 l0_3 l0_4 = some r) :
 Calls Tryz.prog 21 #[.agg #[.int .i64 a0_0, .int .i64 a0_1, .int .i64 a0_2, .slice A0_3 l0_3.length c0_3, .slice A0_4 l0_4.length c0_4]] w fun e w' => e = .returned (.string r) ∧ Below w.heap.size w w' := by
 have hu36 := Tryz.underlying36
 have HR0_3 := Aside0.mk hr0_3
 have HC0_3 := Aside0.mk hc0_3
 clear hr0_3 hc0_3
 have HR0_4 := Aside0.mk hr0_4
 have HC0_4 := Aside0.mk hc0_4
 clear hr0_4 hc0_4
 have HB := Aside0.mk (Below.refl w.heap.size w)
 have H : ((r01_Number.f k a0_1).bind fun t421 => (if t421.size + 1 ≤ 9223372036854775807 then ((r01_Number.f k a0_2).bind fun t422 => (if (t421 ++ (⟨#[32]⟩ : ByteArray)).size + t422.size ≤ 9223372036854775807 then (if ((t421 ++ (⟨#[32]⟩ : ByteArray)) ++ t422).size + 1 ≤ 9223372036854775807 then (if a0_0 = 1 then (if 6 + (((t421 ++ (⟨#[32]⟩ : ByteArray)) ++ t422) ++ (⟨#[32]⟩ : ByteArray)).size ≤ 9223372036854775807 then ((r08_Text.f k l0_3).bind fun t423 => (if ((⟨#[105, 109, 97, 103, 101, 32]⟩ : ByteArray) ++ (((t421 ++ (⟨#[32]⟩ : ByteArray)) ++ t422) ++ (⟨#[32]⟩ : ByteArray))).size + t423.size ≤ 9223372036854775807 then (some (((⟨#[105, 109, 97, 103, 101, 32]⟩ : ByteArray) ++ (((t421 ++ (⟨#[32]⟩ : ByteArray)) ++ t422) ++ (⟨#[32]⟩ : ByteArray))) ++ t423)) else (none))) else (none)) else (if a0_0 = 2 then (if 5 + (((t421 ++ (⟨#[32]⟩ : ByteArray)) ++ t422) ++ (⟨#[32]⟩ : ByteArray)).size ≤ 9223372036854775807 then ((r09_Text.f k l0_4).bind fun t424 => (if ((⟨#[100, 105, 102, 102, 32]⟩ : ByteArray) ++ (((t421 ++ (⟨#[32]⟩ : ByteArray)) ++ t422) ++ (⟨#[32]⟩ : ByteArray))).size + t424.size ≤ 9223372036854775807 then (some (((⟨#[100, 105, 102, 102, 32]⟩ : ByteArray) ++ (((t421 ++ (⟨#[32]⟩ : ByteArray)) ++ t422) ++ (⟨#[32]⟩ : ByteArray))) ++ t424)) else (none))) else (none)) else (if a0_0 = 3 then (if 7 + (((t421 ++ (⟨#[32]⟩ : ByteArray)) ++ t422) ++ (⟨#[32]⟩ : ByteArray)).size ≤ 9223372036854775807 then ((r08_Text.f k l0_3).bind fun t425 => (if ((⟨#[114, 101, 115, 121, 110, 99, 32]⟩ : ByteArray) ++ (((t421 ++ (⟨#[32]⟩ : ByteArray)) ++ t422) ++ (⟨#[32]⟩ : ByteArray))).size + t425.size ≤ 9223372036854775807 then (some (((⟨#[114, 101, 115, 121, 110, 99, 32]⟩ : ByteArray) ++ (((t421 ++ (⟨#[32]⟩ : ByteArray)) ++ t422) ++ (⟨#[32]⟩ : ByteArray))) ++ t425)) else (none))) else (none)) else (some (⟨#[]⟩ : ByteArray))))) else (none)) else (none))) else (none))) = some r := h
 clear h
 obtain ⟨t421, A2, H⟩ := bs H
 try dsimp only at H
 by_cases c3 : t421.size + 1 ≤ 9223372036854775807
 ·
  rw [if_pos c3] at H
  have c3b0 := eq_true c3
  have c3b1 : decide (t421.size + 1 ≤ 9223372036854775807) = true := decide_eq_true c3
  try have c3b2 : (9223372036854775807 < t421.size + 1) = False := eq_false (Nat.not_lt.2 c3)
  obtain ⟨t422, A4, H⟩ := bs H
  try dsimp only at H
  obtain ⟨c5, H⟩ := gd H
  have c5b0 := eq_true c5
  have c5b1 : decide ((t421 ++ (⟨#[32]⟩ : ByteArray)).size + t422.size ≤ 9223372036854775807) = true := decide_eq_true c5
  try have c5b2 : (9223372036854775807 < (t421 ++ (⟨#[32]⟩ : ByteArray)).size + t422.size) = False := eq_false (Nat.not_lt.2 c5)
  try have c5b8 := c5b2
  try simp only [ByteArray.size_append] at c5b8
  try have c5b9 := c5b2
  try simp only [ByteArray.size_append, show (⟨#[32]⟩ : ByteArray).size = 1 from rfl] at c5b9
  obtain ⟨c6, H⟩ := gd H
  have c6b0 := eq_true c6
  have c6b1 : decide (((t421 ++ (⟨#[32]⟩ : ByteArray)) ++ t422).size + 1 ≤ 9223372036854775807) = true := decide_eq_true c6
  try have c6b2 : (9223372036854775807 < ((t421 ++ (⟨#[32]⟩ : ByteArray)) ++ t422).size + 1) = False := eq_false (Nat.not_lt.2 c6)
  try have c6b8 := c6b2
  try simp only [ByteArray.size_append] at c6b8
  try have c6b9 := c6b2
  try simp only [ByteArray.size_append, show (⟨#[32]⟩ : ByteArray).size = 1 from rfl] at c6b9
  by_cases c7 : a0_0 = 1
  ·
   rw [if_pos c7] at H
   have c7b0 : (a0_0 == 1) = true := beq_iff_eq.mpr c7
   have c7b1 : (a0_0 != 1) = false := bne_eq_false_iff_eq.mpr c7
   clear c7
   obtain ⟨c8, H⟩ := gd H
   have c8b0 := eq_true c8
   have c8b1 : decide (6 + (((t421 ++ (⟨#[32]⟩ : ByteArray)) ++ t422) ++ (⟨#[32]⟩ : ByteArray)).size ≤ 9223372036854775807) = true := decide_eq_true c8
   try have c8b2 : (9223372036854775807 < 6 + (((t421 ++ (⟨#[32]⟩ : ByteArray)) ++ t422) ++ (⟨#[32]⟩ : ByteArray)).size) = False := eq_false (Nat.not_lt.2 c8)
   try have c8b8 := c8b2
   try simp only [ByteArray.size_append] at c8b8
   try have c8b9 := c8b2
   try simp only [ByteArray.size_append, show (⟨#[32]⟩ : ByteArray).size = 1 from rfl] at c8b9
   obtain ⟨t423, A9, H⟩ := bs H
   try dsimp only at H
   obtain ⟨c10, H⟩ := gd H
   have c10b0 := eq_true c10
   have c10b1 : decide (((⟨#[105, 109, 97, 103, 101, 32]⟩ : ByteArray) ++ (((t421 ++ (⟨#[32]⟩ : ByteArray)) ++ t422) ++ (⟨#[32]⟩ : ByteArray))).size + t423.size ≤ 9223372036854775807) = true := decide_eq_true c10
   try have c10b2 : (9223372036854775807 < ((⟨#[105, 109, 97, 103, 101, 32]⟩ : ByteArray) ++ (((t421 ++ (⟨#[32]⟩ : ByteArray)) ++ t422) ++ (⟨#[32]⟩ : ByteArray))).size + t423.size) = False := eq_false (Nat.not_lt.2 c10)
   try have c10b8 := c10b2
   try simp only [ByteArray.size_append] at c10b8
   try have c10b9 := c10b2
   try simp only [ByteArray.size_append, show (⟨#[105, 109, 97, 103, 101, 32]⟩ : ByteArray).size = 6 from rfl, show (⟨#[32]⟩ : ByteArray).size = 1 from rfl] at c10b9
   obtain rfl := Option.some.inj H
   go_enter Tryz.func21, Tryz.ntmps21
   try go_wp2_with (first | ((with_reducible refine gate_dst (N := 1) rfl ?_); refine bx (N := 1) #[.int .i64 a0_0, .int .i64 a0_1, .int .i64 a0_2, .slice A0_3 l0_3.length c0_3, .slice A0_4 l0_4.length c0_4] 36 ?_; intro gb420 hg w11 hbox hb; have BK420 := Aside0.mk (hbox); have GW420 := gw hg (uW HB.out); have GE420 := GW420; replace HB := cW HB hb; clear hb hbox hg))
   replace BK420 := Aside0.mk (blk_drew BK420.out)
   replace HB := Aside0.mk (below_drew1 HB.out)
   refine start_ (n := 10) (S := fun w' => w'.cell? ⟨gb420, 0, none⟩ = some (.int .i64 a0_0) ∧ w'.cell? ⟨gb420, 1, none⟩ = some (.int .i64 a0_1) ∧ w'.cell? ⟨gb420, 2, none⟩ = some (.int .i64 a0_2) ∧ w'.cell? ⟨gb420, 3, none⟩ = some (.slice A0_3 l0_3.length c0_3) ∧ w'.cell? ⟨gb420, 4, none⟩ = some (.slice A0_4 l0_4.length c0_4)) (ds := []) _ (by kernel_rfl) rfl rfl ⟨(blk_cell BK420.out 0).trans rfl, (blk_cell BK420.out 1).trans rfl, (blk_cell BK420.out 2).trans rfl, (blk_cell BK420.out 3).trans rfl, (blk_cell BK420.out 4).trans rfl⟩ (fun hHeld => ?_); refine with_tabW r23_Message.tab1 r23_Message.bits1 (fun HT_ HW_ => ?_)
   generalize w11.drew = w12 at BK420 HB hHeld ⊢
   refine p1 0 (some 4) ?_
   refine p1 4 (some 8) ?_
   refine t1 1 (some 5) rfl rfl hHeld (Or.inl ⟨by rfl, by rintro w' ⟨s0, s1, s2, s3, s4⟩; go_simp; with_reducible rfl⟩) ?_
   refine t1 5 (some 9) rfl rfl hHeld (Or.inl ⟨by rfl, by rintro w' ⟨s0, s1, s2, s3, s4⟩; go_simp; with_reducible rfl⟩) ?_
   refine o1 2 (some 6) rfl rfl (fun K hK => ?_)
   refine gS Tryz.func36 #[.int .i64 a0_1] ?_
   with_reducible refine (r01_Number.calls k a0_1 t421 _ A2.out).mono ?_
   rintro e w13 ⟨rfl, hb⟩
   refine ⟨_, rfl, ?_⟩
   replace BK420 := cB BK420 hb
   replace HB := Aside0.mk (below_step bl hb)
   (try clear hb)
   refine hK.out _ _ ⟨(blk_cell BK420.out 0).trans rfl, (blk_cell BK420.out 1).trans rfl, (blk_cell BK420.out 2).trans rfl, (blk_cell BK420.out 3).trans rfl, (blk_cell BK420.out 4).trans rfl⟩ (fun hHeld => ?_)
   clear hK K
   refine norm_ (a' := ?_) ?_ ?_
   rotate_left
   ·
    show Act.put _ (some 6) _ = _
    simp only [Act.put, List.setIfInBounds_toArray, List.set_cons_zero, List.set_cons_succ, i64_w, i32_w]
    rfl
   refine p1 3 (some 7) ?_
   refine o1 6 (some 10) rfl rfl (fun K hK => ?_)
   refine gS Tryz.func36 #[.int .i64 a0_2] ?_
   with_reducible refine (r01_Number.calls k a0_2 t422 _ A4.out).mono ?_
   rintro e w14 ⟨rfl, hb⟩
   refine ⟨_, rfl, ?_⟩
   replace BK420 := cB BK420 hb
   replace HB := Aside0.mk (below_step bl hb)
   (try clear hb)
   refine hK.out _ _ ⟨(blk_cell BK420.out 0).trans rfl, (blk_cell BK420.out 1).trans rfl, (blk_cell BK420.out 2).trans rfl, (blk_cell BK420.out 3).trans rfl, (blk_cell BK420.out 4).trans rfl⟩ (fun hHeld => ?_)
   clear hK K
   refine norm_ (a' := ?_) ?_ ?_
   rotate_left
   ·
    show Act.put _ (some 10) _ = _
    simp only [Act.put, List.setIfInBounds_toArray, List.set_cons_zero, List.set_cons_succ, i64_w, i32_w]
    rfl
   refine p1 7 (some 11) ?_
   refine p1 8 (some 12) ?_
   refine p1 9 (some 3) ?_
   refine done_ (done_of HT_.out (by kernel_rfl)) ?_
   obtain ⟨hcz15_0, hcz15_1, hcz15_2, hcz15_3, hcz15_4, hfz15_0, hfz15_1, hfz15_2, hfz15_3, hfz15_4⟩ := z5 BK420
   try go_wp2_with (first | (refine gL (some 21) rfl Tryz.func39 #[.slice A0_3 l0_3.length c0_3] ?_; (with_reducible refine (r08_Text.calls k _ _ l0_3 t423 _ ?side1 ?side2 A9.out).mono ?_); (case side1 => exact uC <| (Kd.C_below HR0_3.out HB.out)); (case side2 => exact HC0_3.out); rintro e w16 ⟨rfl, hb⟩; refine ⟨_, rfl, ?_⟩; replace BK420 := cB BK420 hb; replace HB := Aside0.mk (below_step bl hb); (try clear hb)))
   go_ret
   exact ⟨re_, bl⟩
  ·
   rw [if_neg c7] at H
   have c7b0 : (a0_0 == 1) = false := beq_eq_false_iff_ne.mpr c7
   have c7b1 : (a0_0 != 1) = true := bne_iff_ne.mpr c7
   by_cases c17 : a0_0 = 2
   ·
    rw [if_pos c17] at H
    have c17b0 : (a0_0 == 2) = true := beq_iff_eq.mpr c17
    have c17b1 : (a0_0 != 2) = false := bne_eq_false_iff_eq.mpr c17
    clear c17
    obtain ⟨c18, H⟩ := gd H
    have c18b0 := eq_true c18
    have c18b1 : decide (5 + (((t421 ++ (⟨#[32]⟩ : ByteArray)) ++ t422) ++ (⟨#[32]⟩ : ByteArray)).size ≤ 9223372036854775807) = true := decide_eq_true c18
    try have c18b2 : (9223372036854775807 < 5 + (((t421 ++ (⟨#[32]⟩ : ByteArray)) ++ t422) ++ (⟨#[32]⟩ : ByteArray)).size) = False := eq_false (Nat.not_lt.2 c18)
    try have c18b8 := c18b2
    try simp only [ByteArray.size_append] at c18b8
    try have c18b9 := c18b2
    try simp only [ByteArray.size_append, show (⟨#[32]⟩ : ByteArray).size = 1 from rfl] at c18b9
    obtain ⟨t424, A19, H⟩ := bs H
    try dsimp only at H
    obtain ⟨c20, H⟩ := gd H
    have c20b0 := eq_true c20
    have c20b1 : decide (((⟨#[100, 105, 102, 102, 32]⟩ : ByteArray) ++ (((t421 ++ (⟨#[32]⟩ : ByteArray)) ++ t422) ++ (⟨#[32]⟩ : ByteArray))).size + t424.size ≤ 9223372036854775807) = true := decide_eq_true c20
    try have c20b2 : (9223372036854775807 < ((⟨#[100, 105, 102, 102, 32]⟩ : ByteArray) ++ (((t421 ++ (⟨#[32]⟩ : ByteArray)) ++ t422) ++ (⟨#[32]⟩ : ByteArray))).size + t424.size) = False := eq_false (Nat.not_lt.2 c20)
    try have c20b8 := c20b2
    try simp only [ByteArray.size_append] at c20b8
    try have c20b9 := c20b2
    try simp only [ByteArray.size_append, show (⟨#[100, 105, 102, 102, 32]⟩ : ByteArray).size = 5 from rfl, show (⟨#[32]⟩ : ByteArray).size = 1 from rfl] at c20b9
    obtain rfl := Option.some.inj H
    go_enter Tryz.func21, Tryz.ntmps21
    try go_wp2_with (first | ((with_reducible refine gate_dst (N := 1) rfl ?_); refine bx (N := 1) #[.int .i64 a0_0, .int .i64 a0_1, .int .i64 a0_2, .slice A0_3 l0_3.length c0_3, .slice A0_4 l0_4.length c0_4] 36 ?_; intro gb420 hg w21 hbox hb; have BK420 := Aside0.mk (hbox); have GW420 := gw hg (uW HB.out); have GE420 := GW420; replace HB := cW HB hb; clear hb hbox hg))
    replace BK420 := Aside0.mk (blk_drew BK420.out)
    replace HB := Aside0.mk (below_drew1 HB.out)
    refine start_ (n := 10) (S := fun w' => w'.cell? ⟨gb420, 0, none⟩ = some (.int .i64 a0_0) ∧ w'.cell? ⟨gb420, 1, none⟩ = some (.int .i64 a0_1) ∧ w'.cell? ⟨gb420, 2, none⟩ = some (.int .i64 a0_2) ∧ w'.cell? ⟨gb420, 3, none⟩ = some (.slice A0_3 l0_3.length c0_3) ∧ w'.cell? ⟨gb420, 4, none⟩ = some (.slice A0_4 l0_4.length c0_4)) (ds := []) _ (by kernel_rfl) rfl rfl ⟨(blk_cell BK420.out 0).trans rfl, (blk_cell BK420.out 1).trans rfl, (blk_cell BK420.out 2).trans rfl, (blk_cell BK420.out 3).trans rfl, (blk_cell BK420.out 4).trans rfl⟩ (fun hHeld => ?_); refine with_tabW r23_Message.tab1 r23_Message.bits1 (fun HT_ HW_ => ?_)
    generalize w21.drew = w22 at BK420 HB hHeld ⊢
    refine p1 0 (some 4) ?_
    refine p1 4 (some 8) ?_
    refine t1 1 (some 5) rfl rfl hHeld (Or.inl ⟨by rfl, by rintro w' ⟨s0, s1, s2, s3, s4⟩; go_simp; with_reducible rfl⟩) ?_
    refine t1 5 (some 9) rfl rfl hHeld (Or.inl ⟨by rfl, by rintro w' ⟨s0, s1, s2, s3, s4⟩; go_simp; with_reducible rfl⟩) ?_
    refine o1 2 (some 6) rfl rfl (fun K hK => ?_)
    refine gS Tryz.func36 #[.int .i64 a0_1] ?_
    with_reducible refine (r01_Number.calls k a0_1 t421 _ A2.out).mono ?_
    rintro e w23 ⟨rfl, hb⟩
    refine ⟨_, rfl, ?_⟩
    replace BK420 := cB BK420 hb
    replace HB := Aside0.mk (below_step bl hb)
    (try clear hb)
    refine hK.out _ _ ⟨(blk_cell BK420.out 0).trans rfl, (blk_cell BK420.out 1).trans rfl, (blk_cell BK420.out 2).trans rfl, (blk_cell BK420.out 3).trans rfl, (blk_cell BK420.out 4).trans rfl⟩ (fun hHeld => ?_)
    clear hK K
    refine norm_ (a' := ?_) ?_ ?_
    rotate_left
    ·
     show Act.put _ (some 6) _ = _
     simp only [Act.put, List.setIfInBounds_toArray, List.set_cons_zero, List.set_cons_succ, i64_w, i32_w]
     rfl
    refine p1 3 (some 7) ?_
    refine o1 6 (some 10) rfl rfl (fun K hK => ?_)
    refine gS Tryz.func36 #[.int .i64 a0_2] ?_
    with_reducible refine (r01_Number.calls k a0_2 t422 _ A4.out).mono ?_
    rintro e w24 ⟨rfl, hb⟩
    refine ⟨_, rfl, ?_⟩
    replace BK420 := cB BK420 hb
    replace HB := Aside0.mk (below_step bl hb)
    (try clear hb)
    refine hK.out _ _ ⟨(blk_cell BK420.out 0).trans rfl, (blk_cell BK420.out 1).trans rfl, (blk_cell BK420.out 2).trans rfl, (blk_cell BK420.out 3).trans rfl, (blk_cell BK420.out 4).trans rfl⟩ (fun hHeld => ?_)
    clear hK K
    refine norm_ (a' := ?_) ?_ ?_
    rotate_left
    ·
     show Act.put _ (some 10) _ = _
     simp only [Act.put, List.setIfInBounds_toArray, List.set_cons_zero, List.set_cons_succ, i64_w, i32_w]
     rfl
    refine p1 7 (some 11) ?_
    refine p1 8 (some 12) ?_
    refine p1 9 (some 3) ?_
    refine done_ (done_of HT_.out (by kernel_rfl)) ?_
    obtain ⟨hcz25_0, hcz25_1, hcz25_2, hcz25_3, hcz25_4, hfz25_0, hfz25_1, hfz25_2, hfz25_3, hfz25_4⟩ := z5 BK420
    try go_wp2_with (first | (refine gL (some 29) rfl Tryz.func42 #[.slice A0_4 l0_4.length c0_4] ?_; (with_reducible refine (r09_Text.calls k _ _ l0_4 t424 _ ?side1 ?side2 A19.out).mono ?_); (case side1 => exact uC <| (Kd.C_below HR0_4.out HB.out)); (case side2 => exact HC0_4.out); rintro e w26 ⟨rfl, hb⟩; refine ⟨_, rfl, ?_⟩; replace BK420 := cB BK420 hb; replace HB := Aside0.mk (below_step bl hb); (try clear hb)))
    go_ret
    exact ⟨re_, bl⟩
   ·
    rw [if_neg c17] at H
    have c17b0 : (a0_0 == 2) = false := beq_eq_false_iff_ne.mpr c17
    have c17b1 : (a0_0 != 2) = true := bne_iff_ne.mpr c17
    by_cases c27 : a0_0 = 3
    ·
     rw [if_pos c27] at H
     have c27b0 : (a0_0 == 3) = true := beq_iff_eq.mpr c27
     have c27b1 : (a0_0 != 3) = false := bne_eq_false_iff_eq.mpr c27
     clear c27
     obtain ⟨c28, H⟩ := gd H
     have c28b0 := eq_true c28
     have c28b1 : decide (7 + (((t421 ++ (⟨#[32]⟩ : ByteArray)) ++ t422) ++ (⟨#[32]⟩ : ByteArray)).size ≤ 9223372036854775807) = true := decide_eq_true c28
     try have c28b2 : (9223372036854775807 < 7 + (((t421 ++ (⟨#[32]⟩ : ByteArray)) ++ t422) ++ (⟨#[32]⟩ : ByteArray)).size) = False := eq_false (Nat.not_lt.2 c28)
     try have c28b8 := c28b2
     try simp only [ByteArray.size_append] at c28b8
     try have c28b9 := c28b2
     try simp only [ByteArray.size_append, show (⟨#[32]⟩ : ByteArray).size = 1 from rfl] at c28b9
     obtain ⟨t425, A29, H⟩ := bs H
     try dsimp only at H
     obtain ⟨c30, H⟩ := gd H
     have c30b0 := eq_true c30
     have c30b1 : decide (((⟨#[114, 101, 115, 121, 110, 99, 32]⟩ : ByteArray) ++ (((t421 ++ (⟨#[32]⟩ : ByteArray)) ++ t422) ++ (⟨#[32]⟩ : ByteArray))).size + t425.size ≤ 9223372036854775807) = true := decide_eq_true c30
     try have c30b2 : (9223372036854775807 < ((⟨#[114, 101, 115, 121, 110, 99, 32]⟩ : ByteArray) ++ (((t421 ++ (⟨#[32]⟩ : ByteArray)) ++ t422) ++ (⟨#[32]⟩ : ByteArray))).size + t425.size) = False := eq_false (Nat.not_lt.2 c30)
     try have c30b8 := c30b2
     try simp only [ByteArray.size_append] at c30b8
     try have c30b9 := c30b2
     try simp only [ByteArray.size_append, show (⟨#[114, 101, 115, 121, 110, 99, 32]⟩ : ByteArray).size = 7 from rfl, show (⟨#[32]⟩ : ByteArray).size = 1 from rfl] at c30b9
     obtain rfl := Option.some.inj H
     go_enter Tryz.func21, Tryz.ntmps21
     try go_wp2_with (first | ((with_reducible refine gate_dst (N := 1) rfl ?_); refine bx (N := 1) #[.int .i64 a0_0, .int .i64 a0_1, .int .i64 a0_2, .slice A0_3 l0_3.length c0_3, .slice A0_4 l0_4.length c0_4] 36 ?_; intro gb420 hg w31 hbox hb; have BK420 := Aside0.mk (hbox); have GW420 := gw hg (uW HB.out); have GE420 := GW420; replace HB := cW HB hb; clear hb hbox hg))
     replace BK420 := Aside0.mk (blk_drew BK420.out)
     replace HB := Aside0.mk (below_drew1 HB.out)
     refine start_ (n := 10) (S := fun w' => w'.cell? ⟨gb420, 0, none⟩ = some (.int .i64 a0_0) ∧ w'.cell? ⟨gb420, 1, none⟩ = some (.int .i64 a0_1) ∧ w'.cell? ⟨gb420, 2, none⟩ = some (.int .i64 a0_2) ∧ w'.cell? ⟨gb420, 3, none⟩ = some (.slice A0_3 l0_3.length c0_3) ∧ w'.cell? ⟨gb420, 4, none⟩ = some (.slice A0_4 l0_4.length c0_4)) (ds := []) _ (by kernel_rfl) rfl rfl ⟨(blk_cell BK420.out 0).trans rfl, (blk_cell BK420.out 1).trans rfl, (blk_cell BK420.out 2).trans rfl, (blk_cell BK420.out 3).trans rfl, (blk_cell BK420.out 4).trans rfl⟩ (fun hHeld => ?_); refine with_tabW r23_Message.tab1 r23_Message.bits1 (fun HT_ HW_ => ?_)
     generalize w31.drew = w32 at BK420 HB hHeld ⊢
     refine p1 0 (some 4) ?_
     refine p1 4 (some 8) ?_
     refine t1 1 (some 5) rfl rfl hHeld (Or.inl ⟨by rfl, by rintro w' ⟨s0, s1, s2, s3, s4⟩; go_simp; with_reducible rfl⟩) ?_
     refine t1 5 (some 9) rfl rfl hHeld (Or.inl ⟨by rfl, by rintro w' ⟨s0, s1, s2, s3, s4⟩; go_simp; with_reducible rfl⟩) ?_
     refine o1 2 (some 6) rfl rfl (fun K hK => ?_)
     refine gS Tryz.func36 #[.int .i64 a0_1] ?_
     with_reducible refine (r01_Number.calls k a0_1 t421 _ A2.out).mono ?_
     rintro e w33 ⟨rfl, hb⟩
     refine ⟨_, rfl, ?_⟩
     replace BK420 := cB BK420 hb
     replace HB := Aside0.mk (below_step bl hb)
     (try clear hb)
     refine hK.out _ _ ⟨(blk_cell BK420.out 0).trans rfl, (blk_cell BK420.out 1).trans rfl, (blk_cell BK420.out 2).trans rfl, (blk_cell BK420.out 3).trans rfl, (blk_cell BK420.out 4).trans rfl⟩ (fun hHeld => ?_)
     clear hK K
     refine norm_ (a' := ?_) ?_ ?_
     rotate_left
     ·
      show Act.put _ (some 6) _ = _
      simp only [Act.put, List.setIfInBounds_toArray, List.set_cons_zero, List.set_cons_succ, i64_w, i32_w]
      rfl
     refine p1 3 (some 7) ?_
     refine o1 6 (some 10) rfl rfl (fun K hK => ?_)
     refine gS Tryz.func36 #[.int .i64 a0_2] ?_
     with_reducible refine (r01_Number.calls k a0_2 t422 _ A4.out).mono ?_
     rintro e w34 ⟨rfl, hb⟩
     refine ⟨_, rfl, ?_⟩
     replace BK420 := cB BK420 hb
     replace HB := Aside0.mk (below_step bl hb)
     (try clear hb)
     refine hK.out _ _ ⟨(blk_cell BK420.out 0).trans rfl, (blk_cell BK420.out 1).trans rfl, (blk_cell BK420.out 2).trans rfl, (blk_cell BK420.out 3).trans rfl, (blk_cell BK420.out 4).trans rfl⟩ (fun hHeld => ?_)
     clear hK K
     refine norm_ (a' := ?_) ?_ ?_
     rotate_left
     ·
      show Act.put _ (some 10) _ = _
      simp only [Act.put, List.setIfInBounds_toArray, List.set_cons_zero, List.set_cons_succ, i64_w, i32_w]
      rfl
     refine p1 7 (some 11) ?_
     refine p1 8 (some 12) ?_
     refine p1 9 (some 3) ?_
     refine done_ (done_of HT_.out (by kernel_rfl)) ?_
     obtain ⟨hcz35_0, hcz35_1, hcz35_2, hcz35_3, hcz35_4, hfz35_0, hfz35_1, hfz35_2, hfz35_3, hfz35_4⟩ := z5 BK420
     try go_wp2_with (first | (refine gL (some 37) rfl Tryz.func39 #[.slice A0_3 l0_3.length c0_3] ?_; (with_reducible refine (r08_Text.calls k _ _ l0_3 t425 _ ?side1 ?side2 A29.out).mono ?_); (case side1 => exact uC <| (Kd.C_below HR0_3.out HB.out)); (case side2 => exact HC0_3.out); rintro e w36 ⟨rfl, hb⟩; refine ⟨_, rfl, ?_⟩; replace BK420 := cB BK420 hb; replace HB := Aside0.mk (below_step bl hb); (try clear hb)))
     go_ret
     exact ⟨re_, bl⟩
    ·
     rw [if_neg c27] at H
     have c27b0 : (a0_0 == 3) = false := beq_eq_false_iff_ne.mpr c27
     have c27b1 : (a0_0 != 3) = true := bne_iff_ne.mpr c27
     obtain rfl := Option.some.inj H
     go_enter Tryz.func21, Tryz.ntmps21
     try go_wp2_with (first | ((with_reducible refine gate_dst (N := 1) rfl ?_); refine bx (N := 1) #[.int .i64 a0_0, .int .i64 a0_1, .int .i64 a0_2, .slice A0_3 l0_3.length c0_3, .slice A0_4 l0_4.length c0_4] 36 ?_; intro gb420 hg w37 hbox hb; have BK420 := Aside0.mk (hbox); have GW420 := gw hg (uW HB.out); have GE420 := GW420; replace HB := cW HB hb; clear hb hbox hg))
     replace BK420 := Aside0.mk (blk_drew BK420.out)
     replace HB := Aside0.mk (below_drew1 HB.out)
     refine start_ (n := 10) (S := fun w' => w'.cell? ⟨gb420, 0, none⟩ = some (.int .i64 a0_0) ∧ w'.cell? ⟨gb420, 1, none⟩ = some (.int .i64 a0_1) ∧ w'.cell? ⟨gb420, 2, none⟩ = some (.int .i64 a0_2) ∧ w'.cell? ⟨gb420, 3, none⟩ = some (.slice A0_3 l0_3.length c0_3) ∧ w'.cell? ⟨gb420, 4, none⟩ = some (.slice A0_4 l0_4.length c0_4)) (ds := []) _ (by kernel_rfl) rfl rfl ⟨(blk_cell BK420.out 0).trans rfl, (blk_cell BK420.out 1).trans rfl, (blk_cell BK420.out 2).trans rfl, (blk_cell BK420.out 3).trans rfl, (blk_cell BK420.out 4).trans rfl⟩ (fun hHeld => ?_); refine with_tabW r23_Message.tab1 r23_Message.bits1 (fun HT_ HW_ => ?_)
     generalize w37.drew = w38 at BK420 HB hHeld ⊢
     refine p1 0 (some 4) ?_
     refine p1 4 (some 8) ?_
     refine t1 1 (some 5) rfl rfl hHeld (Or.inl ⟨by rfl, by rintro w' ⟨s0, s1, s2, s3, s4⟩; go_simp; with_reducible rfl⟩) ?_
     refine t1 5 (some 9) rfl rfl hHeld (Or.inl ⟨by rfl, by rintro w' ⟨s0, s1, s2, s3, s4⟩; go_simp; with_reducible rfl⟩) ?_
     refine o1 2 (some 6) rfl rfl (fun K hK => ?_)
     refine gS Tryz.func36 #[.int .i64 a0_1] ?_
     with_reducible refine (r01_Number.calls k a0_1 t421 _ A2.out).mono ?_
     rintro e w39 ⟨rfl, hb⟩
     refine ⟨_, rfl, ?_⟩
     replace BK420 := cB BK420 hb
     replace HB := Aside0.mk (below_step bl hb)
     (try clear hb)
     refine hK.out _ _ ⟨(blk_cell BK420.out 0).trans rfl, (blk_cell BK420.out 1).trans rfl, (blk_cell BK420.out 2).trans rfl, (blk_cell BK420.out 3).trans rfl, (blk_cell BK420.out 4).trans rfl⟩ (fun hHeld => ?_)
     clear hK K
     refine norm_ (a' := ?_) ?_ ?_
     rotate_left
     ·
      show Act.put _ (some 6) _ = _
      simp only [Act.put, List.setIfInBounds_toArray, List.set_cons_zero, List.set_cons_succ, i64_w, i32_w]
      rfl
     refine p1 3 (some 7) ?_
     refine o1 6 (some 10) rfl rfl (fun K hK => ?_)
     refine gS Tryz.func36 #[.int .i64 a0_2] ?_
     with_reducible refine (r01_Number.calls k a0_2 t422 _ A4.out).mono ?_
     rintro e w40 ⟨rfl, hb⟩
     refine ⟨_, rfl, ?_⟩
     replace BK420 := cB BK420 hb
     replace HB := Aside0.mk (below_step bl hb)
     (try clear hb)
     refine hK.out _ _ ⟨(blk_cell BK420.out 0).trans rfl, (blk_cell BK420.out 1).trans rfl, (blk_cell BK420.out 2).trans rfl, (blk_cell BK420.out 3).trans rfl, (blk_cell BK420.out 4).trans rfl⟩ (fun hHeld => ?_)
     clear hK K
     refine norm_ (a' := ?_) ?_ ?_
     rotate_left
     ·
      show Act.put _ (some 10) _ = _
      simp only [Act.put, List.setIfInBounds_toArray, List.set_cons_zero, List.set_cons_succ, i64_w, i32_w]
      rfl
     refine p1 7 (some 11) ?_
     refine p1 8 (some 12) ?_
     refine p1 9 (some 3) ?_
     refine done_ (done_of HT_.out (by kernel_rfl)) ?_
     obtain ⟨hcz41_0, hcz41_1, hcz41_2, hcz41_3, hcz41_4, hfz41_0, hfz41_1, hfz41_2, hfz41_3, hfz41_4⟩ := z5 BK420
     try go_wp2
     go_ret
     exact ⟨re_, bl⟩
 ·
  rw [if_neg c3] at H
  exact absurd H (by simp)
end Go.Proofs.YteckidchnicjeaaGreatDoor.X
