/- Printed by a program of this session's own: what functions of the program compute, and that the machine computes it. No condition of its own. -/
import Derived.Test.YteckidchnicjeaaGreatDoorM3
namespace Go.Proofs.YteckidchnicjeaaGreatDoor.X
open Go.RowKit Go.Proofs.YteckidchnicjeaaGreatDoorW.PrintWords Go.Proofs.YteckidchnicjeaaGreatDoorW.PrintLast Go.Proofs.YteckidchnicjeaaGreatDoorW.PrintMore
attribute [local go_sem] max2_int min2_int max_two min_two max_three min_three max_four min_four
set_option linter.unusedVariables false
set_option linter.unusedSimpArgs false
set_option maxHeartbeats 8000000
set_option maxRecDepth 100000
def strings_Join.f (l0 : List ByteArray) (a1 : ByteArray) : Option (ByteArray) := if l0.length ≤ 140737488355328 ∧ (Lib.join (l0.map (·.data.toList)) a1.data.toList).length ≤ 140737488355328 then (some (⟨(Lib.join (l0.map (·.data.toList)) a1.data.toList).toArray⟩ : ByteArray)) else (none)
theorem strings_Join.calls (A0 : Option Addr) (c0 : Nat) (l0 : List ByteArray) (a1 : ByteArray) (r : ByteArray) (w : World) (hr0 : Kd.C Kd.string w A0 l0.length l0) (hc0 : l0.length ≤ c0) (h : strings_Join.f l0 a1 = some r) :
 Calls Tryz.prog 78 #[.slice A0 l0.length c0, .string a1] w fun e w' => e = .returned (.string r) ∧ Below w.heap.size w w' := by
 unfold strings_Join.f at h
 by_cases hc : l0.length ≤ 140737488355328 ∧ (Lib.join (l0.map (·.data.toList)) a1.data.toList).length ≤ 140737488355328
 ·
  rw [if_pos hc] at h
  obtain rfl := Option.some.inj h
  cases hl : l0 with
  | nil => exact (Tryz.strings_Join_none A0 c0 a1 w).mono fun e w' hh => ⟨hh.1, hh.2 ▸ Below.refl _ _⟩
  | cons x xs =>
   rw [← hl]
   have hpos : 0 < l0.length := by rw [hl]; simp
   obtain ⟨ad, e0, h0⟩ := Kd.at_string hr0 0 (Int.le_refl _) (by omega)
   subst e0
   obtain ⟨b, o, p⟩ := ad
   have hnn : p = none := by
    cases p with
    | none => rfl
    | some q =>
     exfalso
     revert h0
     unfold World.cell?
     simp only [Addr.add]
     split <;> simp
   subst hnn
   refine Tryz.strings_Join b o c0 l0 a1 w (fun j y hy => ?_) ?_ hc.1 hc0 hc.2
   ·
    obtain ⟨hj, hy2⟩ := List.getElem?_eq_some_iff.mp hy
    obtain ⟨ad2, e2, h2⟩ := Kd.at_string hr0 (j : Int) (by omega) (by omega)
    cases e2
    rw [Int.toNat_natCast, Addr.add_lit] at h2
    rw [h2]
    congr 2
    show l0.getD ((j : Int)).toNat _ = y
    rw [Int.toNat_natCast, List.getD_eq_getElem?_getD, hy, Option.getD_some]
   ·
    exact World.block_lt_of_cell? w _ h0
 ·
  rw [if_neg hc] at h
  exact absurd h (by simp)
def word_Join.f (a0 : ByteArray) (l1 : List ByteArray) : Option (ByteArray) := (strings_Join.f l1 a0).bind fun t101 => (some t101)
theorem word_Join.calls (a0 : ByteArray) (A1 : Option Addr) (c1 : Nat) (l1 : List ByteArray) (r : ByteArray) (w : World) (hr1 : Kd.C Kd.string w A1 l1.length l1) (hc1 : l1.length ≤ c1) (h : word_Join.f a0 l1 = some r) :
 Calls Tryz.prog 61 #[.string a0, .slice A1 l1.length c1] w fun e w' => e = .returned (.string r) ∧ Below w.heap.size w w' := by
 have HR1 := Aside0.mk hr1
 have HC1 := Aside0.mk hc1
 clear hr1 hc1
 have HB := Aside0.mk (Below.refl w.heap.size w)
 have H : ((strings_Join.f l1 a0).bind fun t101 => (some t101)) = some r := h
 clear h
 obtain ⟨t101, A3, H⟩ := bs H
 try dsimp only at H
 obtain rfl := Option.some.inj H
 go_enter Tryz.func61, Tryz.ntmps61
 go_wp2_with (first | (refine gL (some 7) rfl Tryz.func78 #[.slice A1 l1.length c1, .string a0] ?_; (with_reducible refine (strings_Join.calls _ _ l1 a0 t101 _ ?side1 ?side2 A3.out).mono ?_); (case side1 => exact uC <| HR1.out); (case side2 => exact HC1.out); rintro e w4 ⟨rfl, hb⟩; refine ⟨_, rfl, ?_⟩; replace HB := cW HB hb; (try clear hb)))
 go_ret
 exact ⟨re_, uW HB.out⟩
def reply_say.f (l0 : List ByteArray) : Option (ByteArray) := (word_Join.f (⟨#[32]⟩ : ByteArray) l0).bind fun t102 => (some t102)
theorem reply_say.calls (A0 : Option Addr) (c0 : Nat) (l0 : List ByteArray) (r : ByteArray) (w : World) (hr0 : Kd.C Kd.string w A0 l0.length l0) (hc0 : l0.length ≤ c0) (h : reply_say.f l0 = some r) :
 Calls Tryz.prog 33 #[.slice A0 l0.length c0] w fun e w' => e = .returned (.string r) ∧ Below w.heap.size w w' := by
 have HR0 := Aside0.mk hr0
 have HC0 := Aside0.mk hc0
 clear hr0 hc0
 have HB := Aside0.mk (Below.refl w.heap.size w)
 have H : ((word_Join.f (⟨#[32]⟩ : ByteArray) l0).bind fun t102 => (some t102)) = some r := h
 clear h
 obtain ⟨t102, A2, H⟩ := bs H
 try dsimp only at H
 obtain rfl := Option.some.inj H
 go_enter Tryz.func33, Tryz.ntmps33
 go_wp2_with (first | (refine gL (some 4) rfl Tryz.func61 #[.string (⟨#[32]⟩ : ByteArray), .slice A0 l0.length c0] ?_; (with_reducible refine (word_Join.calls (⟨#[32]⟩ : ByteArray) _ _ l0 t102 _ ?side1 ?side2 A2.out).mono ?_); (case side1 => exact uC <| HR0.out); (case side2 => exact HC0.out); rintro e w3 ⟨rfl, hb⟩; refine ⟨_, rfl, ?_⟩; replace HB := cW HB hb; (try clear hb)))
 go_ret
 exact ⟨re_, uW HB.out⟩
def strings_Fields.f (a0 : ByteArray) : Option (List ByteArray) := if a0.size < 4294967281 ∧ a0.data.toList.all (fun b => decide (b.toNat < 128)) = true ∧ (Lib.fields a0.data.toList).length ≤ 140737488355328 then (some ((Lib.fields a0.data.toList).map fun l => (⟨l.toArray⟩ : ByteArray))) else (none)
theorem strings_Fields.calls (a0 : ByteArray) (r : List ByteArray) (w : World) (hL : LD w) (h : strings_Fields.f a0 = some r) :
 Calls Tryz.prog 62 #[.string a0] w fun e w' => ∃ v0_ : Value, e = .returned (v0_) ∧ Kd.R Kd.string 9 w' w.heap.size (fun _ => True) v0_ r ∧ Below w.heap.size w w' := by
 unfold strings_Fields.f at h
 by_cases hc : a0.size < 4294967281 ∧ a0.data.toList.all (fun b => decide (b.toNat < 128)) = true ∧ (Lib.fields a0.data.toList).length ≤ 140737488355328
 ·
  rw [if_pos hc] at h
  obtain rfl := Option.some.inj h
  refine (Tryz.strings_Fields a0 w hc.1 (ascii_of_all hc.2.1) hL.asciiSpace).mono ?_
  rintro e w' ⟨rfl, rfl⟩
  have hl : ((Lib.fields a0.data.toList).map fun l => (⟨l.toArray⟩ : ByteArray)).length = (Lib.fields a0.data.toList).length := List.length_map _
  refine ⟨_, rfl, Kd.R_of_own ⟨by simp [encs], Or.inr ⟨w.heap.size, (Lib.fields a0.data.toList).length, _, by rw [hl], Nat.le_refl _, by show (w.heap.push _)[w.heap.size]? = _; exact Array.getElem?_push_size, ?_⟩⟩ ?_, (Below.refl _ _).alloc (Nat.le_refl _) _⟩
  ·
   refine ⟨?_, ?_, ?_, ?_⟩
   ·
    rw [hl]; exact Nat.le_refl _
   ·
    exact Nat.le_trans hc.2.2 (by decide)
   ·
    simp
   ·
    simp [encs]
    rw [List.take_of_length_le (by simp)]
    rfl
  ·
   exact fun _ _ => trivial
 ·
  rw [if_neg hc] at h
  exact absurd h (by simp)
def reply_told.f (a0 : Int) : Option (ByteArray) := (strings_Fields.f (⟨#[97, 114, 103, 32, 102, 111, 114, 109, 32, 114, 97, 110, 103, 101, 32, 109, 97, 110, 121, 32, 116, 119, 105, 99, 101, 32, 110, 111, 110, 101, 32, 108, 97, 116, 101, 32, 102, 117, 108, 108, 32, 111, 114, 100, 101, 114, 32, 108, 111, 110, 103]⟩ : ByteArray)).bind fun t103 => (if a0 < 1 then (some (⟨#[101, 114, 114, 111, 114]⟩ : ByteArray)) else (if a0 > (t103.length : Int) then (some (⟨#[101, 114, 114, 111, 114]⟩ : ByteArray)) else (if 0 ≤ (wrap64 (a0 - 1)) then (if (wrap64 (a0 - 1)) < (t103.length : Int) then (some (rdOf ByteArray.empty t103 (wrap64 (a0 - 1)))) else (none)) else (none))))
theorem reply_told.calls (a0 : Int) (r : ByteArray) (w : World) (hL : LD w) (h : reply_told.f a0 = some r) :
 Calls Tryz.prog 34 #[.int .i64 a0] w fun e w' => e = .returned (.string r) ∧ Below w.heap.size w w' := by
 have HL0 := Aside0.mk hL
 clear hL
 have HB := Aside0.mk (Below.refl w.heap.size w)
 have H : ((strings_Fields.f (⟨#[97, 114, 103, 32, 102, 111, 114, 109, 32, 114, 97, 110, 103, 101, 32, 109, 97, 110, 121, 32, 116, 119, 105, 99, 101, 32, 110, 111, 110, 101, 32, 108, 97, 116, 101, 32, 102, 117, 108, 108, 32, 111, 114, 100, 101, 114, 32, 108, 111, 110, 103]⟩ : ByteArray)).bind fun t103 => (if a0 < 1 then (some (⟨#[101, 114, 114, 111, 114]⟩ : ByteArray)) else (if a0 > (t103.length : Int) then (some (⟨#[101, 114, 114, 111, 114]⟩ : ByteArray)) else (if 0 ≤ (wrap64 (a0 - 1)) then (if (wrap64 (a0 - 1)) < (t103.length : Int) then (some (rdOf ByteArray.empty t103 (wrap64 (a0 - 1)))) else (none)) else (none))))) = some r := h
 clear h
 obtain ⟨t103, A2, H⟩ := bs H
 try dsimp only at H
 by_cases c3 : a0 < 1
 ·
  rw [if_pos c3] at H
  have c3b0 : decide (a0 < 1) = true := decide_eq_true c3
  clear c3
  obtain rfl := Option.some.inj H
  go_enter Tryz.func34, Tryz.ntmps34
  go_wp2_with (first | (refine gL (some 4) rfl Tryz.func62 #[.string (⟨#[97, 114, 103, 32, 102, 111, 114, 109, 32, 114, 97, 110, 103, 101, 32, 109, 97, 110, 121, 32, 116, 119, 105, 99, 101, 32, 110, 111, 110, 101, 32, 108, 97, 116, 101, 32, 102, 117, 108, 108, 32, 111, 114, 100, 101, 114, 32, 108, 111, 110, 103]⟩ : ByteArray)] ?_; (with_reducible refine (strings_Fields.calls (hL := ld) (⟨#[97, 114, 103, 32, 102, 111, 114, 109, 32, 114, 97, 110, 103, 101, 32, 109, 97, 110, 121, 32, 116, 119, 105, 99, 101, 32, 110, 111, 110, 101, 32, 108, 97, 116, 101, 32, 102, 117, 108, 108, 32, 111, 114, 100, 101, 114, 32, 108, 111, 110, 103]⟩ : ByteArray) t103 _ A2.out).mono ?_); rintro e w4 ⟨v104, rfl, ho0, hb⟩; refine ⟨_, rfl, ?_⟩; have HO105 := Aside0.mk (Kd.R_lower ho0 (below_size (uW HB.out))); replace HB := cW HB hb; (try clear hb); (try clear ho0)))
  go_ret
  exact ⟨re_, uW HB.out⟩
 ·
  rw [if_neg c3] at H
  have c3b0 : decide (a0 < 1) = false := decide_eq_false c3
  clear c3
  by_cases c5 : a0 > (t103.length : Int)
  ·
   rw [if_pos c5] at H
   have c5b0 : decide ((t103.length : Int) < a0) = true := decide_eq_true c5
   clear c5
   obtain rfl := Option.some.inj H
   go_enter Tryz.func34, Tryz.ntmps34
   go_wp2_with (first | (refine gL (some 4) rfl Tryz.func62 #[.string (⟨#[97, 114, 103, 32, 102, 111, 114, 109, 32, 114, 97, 110, 103, 101, 32, 109, 97, 110, 121, 32, 116, 119, 105, 99, 101, 32, 110, 111, 110, 101, 32, 108, 97, 116, 101, 32, 102, 117, 108, 108, 32, 111, 114, 100, 101, 114, 32, 108, 111, 110, 103]⟩ : ByteArray)] ?_; (with_reducible refine (strings_Fields.calls (hL := ld) (⟨#[97, 114, 103, 32, 102, 111, 114, 109, 32, 114, 97, 110, 103, 101, 32, 109, 97, 110, 121, 32, 116, 119, 105, 99, 101, 32, 110, 111, 110, 101, 32, 108, 97, 116, 101, 32, 102, 117, 108, 108, 32, 111, 114, 100, 101, 114, 32, 108, 111, 110, 103]⟩ : ByteArray) t103 _ A2.out).mono ?_); rintro e w6 ⟨v104, rfl, ho0, hb⟩; refine ⟨_, rfl, ?_⟩; have HO105 := Aside0.mk (Kd.R_lower ho0 (below_size (uW HB.out))); replace HB := cW HB hb; (try clear hb); (try clear ho0); obtain ⟨Ao7, co7, eo7⟩ := Kd.R_slice HO105.out; subst eo7))
   go_ret
   exact ⟨re_, uW HB.out⟩
  ·
   rw [if_neg c5] at H
   have c5b0 : decide ((t103.length : Int) < a0) = false := decide_eq_false c5
   clear c5
   obtain ⟨ji8, hji8⟩ : ∃ j_ : Int, (wrap64 (a0 - 1)) = j_ := ⟨_, rfl⟩
   (first | rw [hji8] at H | simp only [hji8] at H)
   (try rw [hji8] at A2)
   have hji8w : (IntKind.i64.wrap (a0 - 1)) = ji8 := (i64_w _).trans hji8
   by_cases c9 : 0 ≤ (ji8)
   ·
    rw [if_pos c9] at H
    have c9b0 : decide (0 ≤ (ji8)) = true := decide_eq_true c9
    clear c9
    obtain ⟨c10b0, H⟩ := gdd H
    obtain rfl := Option.some.inj H
    go_enter Tryz.func34, Tryz.ntmps34
    go_wp2_with (first | (refine gL (some 4) rfl Tryz.func62 #[.string (⟨#[97, 114, 103, 32, 102, 111, 114, 109, 32, 114, 97, 110, 103, 101, 32, 109, 97, 110, 121, 32, 116, 119, 105, 99, 101, 32, 110, 111, 110, 101, 32, 108, 97, 116, 101, 32, 102, 117, 108, 108, 32, 111, 114, 100, 101, 114, 32, 108, 111, 110, 103]⟩ : ByteArray)] ?_; (with_reducible refine (strings_Fields.calls (hL := ld) (⟨#[97, 114, 103, 32, 102, 111, 114, 109, 32, 114, 97, 110, 103, 101, 32, 109, 97, 110, 121, 32, 116, 119, 105, 99, 101, 32, 110, 111, 110, 101, 32, 108, 97, 116, 101, 32, 102, 117, 108, 108, 32, 111, 114, 100, 101, 114, 32, 108, 111, 110, 103]⟩ : ByteArray) t103 _ A2.out).mono ?_); rintro e w11 ⟨v104, rfl, ho0, hb⟩; refine ⟨_, rfl, ?_⟩; have HO105 := Aside0.mk (Kd.R_lower ho0 (below_size (uW HB.out))); replace HB := cW HB hb; (try clear hb); (try clear ho0); obtain ⟨Ao12, co12, eo12⟩ := Kd.R_slice HO105.out; subst eo12; have p106 : 0 ≤ ((ji8) : Int) := od; have q106 : (ji8) < (t103.length : Int) := od; obtain ⟨ad106, e106, hx106_0⟩ := Kd.at_string (Kd.R_reads' HO105.out).2.2 (ji8) p106 q106; cases e106; replace p106 := eq_true p106; replace q106 := eq_true q106))
    go_ret
    exact ⟨by first | rfl | (simp [errW_none, errW_some] <;> rfl) | (simp only [← hji8]; first | rfl | (simp [errW_none, errW_some] <;> rfl)) | (simp [*, errW_none, errW_some] <;> rfl), uW HB.out⟩
   ·
    rw [if_neg c9] at H
    exact absurd H (by simp)
def reply_Error.f (a0 : Int) : Option (ByteArray) := if a0 = 0 then (some (⟨#[111, 107]⟩ : ByteArray)) else ((reply_told.f a0).bind fun t107 => ((reply_say.f (([(⟨#[101, 114, 114]⟩ : ByteArray), t107] : List ByteArray))).bind fun t111 => (some t111)))
theorem reply_Error.calls (a0 : Int) (r : ByteArray) (w : World) (hL : LD w) (h : reply_Error.f a0 = some r) :
 Calls Tryz.prog 8 #[.int .i64 a0] w fun e w' => e = .returned (.string r) ∧ Below w.heap.size w w' := by
 have HL0 := Aside0.mk hL
 clear hL
 have HB := Aside0.mk (Below.refl w.heap.size w)
 have H : (if a0 = 0 then (some (⟨#[111, 107]⟩ : ByteArray)) else ((reply_told.f a0).bind fun t107 => ((reply_say.f (([(⟨#[101, 114, 114]⟩ : ByteArray), t107] : List ByteArray))).bind fun t111 => (some t111)))) = some r := h
 clear h
 by_cases c2 : a0 = 0
 ·
  rw [if_pos c2] at H
  have c2b0 : (a0 == 0) = true := beq_iff_eq.mpr c2
  have c2b1 : (a0 != 0) = false := bne_eq_false_iff_eq.mpr c2
  clear c2
  obtain rfl := Option.some.inj H
  go_enter Tryz.func8, Tryz.ntmps8
  go_wp2
  go_ret
  exact ⟨re_, uW HB.out⟩
 ·
  rw [if_neg c2] at H
  have c2b0 : (a0 == 0) = false := beq_eq_false_iff_ne.mpr c2
  have c2b1 : (a0 != 0) = true := bne_iff_ne.mpr c2
  obtain ⟨t107, A3, H⟩ := bs H
  try dsimp only at H
  obtain ⟨y108, hy108⟩ : ∃ y_ : List ByteArray, y_ = (([(⟨#[101, 114, 114]⟩ : ByteArray), t107] : List ByteArray)) := ⟨_, rfl⟩
  replace H : ((reply_say.f y108).bind fun t111 => (some t111)) = some r := by first | (rw [hy108]; with_reducible exact H) | (have H2_ := (Option.bind_some _ _).symm.trans H; rw [hy108]; with_reducible exact H2_) | (have H2_ := (Option.bind_some _ _).symm.trans H; with_reducible exact H2_) | with_reducible exact H | (rw [hy108]; exact H) | exact H
  have Ny108 := Aside0.mk hy108
  clear hy108
  obtain ⟨t111, A4, H⟩ := bs H
  try dsimp only at H
  obtain rfl := Option.some.inj H
  go_enter Tryz.func8, Tryz.ntmps8
  go_wp2_with (first | (refine gL (some 6) rfl Tryz.func34 #[.int .i64 a0] ?_; (with_reducible refine (reply_told.calls (hL := ld) a0 t107 _ A3.out).mono ?_); rintro e w5 ⟨rfl, hb⟩; refine ⟨_, rfl, ?_⟩; replace HB := cW HB hb; (try clear hb)) | ((with_reducible refine gate_dst (N := 7) rfl ?_); refine Kd.R_lit Kd.string _ 9 ?hg (N := 7) ?hd (xs := ([(⟨#[101, 114, 114]⟩ : ByteArray), t107] : List ByteArray)) (inner := [.string (⟨#[101, 114, 114]⟩ : ByteArray), .string t107]) (ok := fun _ => True) (okp := fun _ => True) ?hr ?hp (fun _ hk => hk) trivial (Below.refl _ _) (Nat.le_refl _) (by simp) ?_; (case hd => rfl); (case hg => rfl); (case hr => first | (go_simp; done) | (go_simp; rfl)); (case hp => exact (Reps.one (show Kd.M Kd.string _ _ _ (⟨#[101, 114, 114]⟩ : ByteArray) [.string (⟨#[101, 114, 114]⟩ : ByteArray)] from rfl) (Reps.one (show Kd.M Kd.string _ _ _ t107 [.string t107] from rfl) (Reps.none _ _)))); intro v109 w6 ho7 hb hg_ hnew_; clear hg_ hnew_; (first | rw [← Ny108.out] at ho7 | (simp only [Int.reduceToNat] at ho7; rw [← Ny108.out] at ho7)); have HO110 := Aside0.mk (Kd.R_lower ho7 (below_size (uW HB.out))); replace HB := cW HB hb; clear hb ho7; obtain ⟨Ao8, co8, eo8⟩ := Kd.R_slice HO110.out; subst eo8) | (refine gL (some 8) rfl Tryz.func33 #[.slice Ao8 y108.length co8] ?_; (with_reducible refine (reply_say.calls _ _ y108 t111 _ ?side1 ?side2 A4.out).mono ?_); (case side1 => exact uC <| (Kd.R_reads' HO110.out).2.2); (case side2 => exact (Kd.R_reads' HO110.out).2.1); rintro e w9 ⟨rfl, hb⟩; refine ⟨_, rfl, ?_⟩; replace HO110 := cR HO110 hb; replace HB := cW HB hb; (try clear hb)))
  go_ret
  exact ⟨re_, uW HB.out⟩
def strconv_FormatInt.f (a0 : Int) (a1 : Int) : Option (ByteArray) := if a1 = 10 ∧ -9223372036854775808 ≤ a0 ∧ a0 ≤ 9223372036854775807 then (some (⟨(Lib.itoa a0).toArray⟩ : ByteArray)) else (none)
theorem strconv_FormatInt.calls (a0 : Int) (a1 : Int) (r : ByteArray) (w : World) (hL : LD w) (h : strconv_FormatInt.f a0 a1 = some r) :
 Calls Tryz.prog 63 #[.int .i64 a0, .int .i64 a1] w fun e w' => e = .returned (.string r) ∧ Below w.heap.size w w' := by
 unfold strconv_FormatInt.f at h
 by_cases hc : a1 = 10 ∧ -9223372036854775808 ≤ a0 ∧ a0 ≤ 9223372036854775807
 ·
  rw [if_pos hc] at h
  obtain rfl := Option.some.inj h
  obtain ⟨rfl, h0, h1⟩ := hc
  refine (Tryz.strconv_FormatInt_10 a0 h0 h1 w hL.pow10).mono ?_
  rintro e w' ⟨rfl, k, os, rfl⟩
  exact ⟨rfl, below_growX w k os⟩
 ·
  rw [if_neg hc] at h
  exact absurd h (by simp)
def sat_Number.f (a0 : Int) : Option (ByteArray) := (strconv_FormatInt.f a0 10).bind fun t112 => (some t112)
theorem sat_Number.calls (a0 : Int) (r : ByteArray) (w : World) (hL : LD w) (h : sat_Number.f a0 = some r) :
 Calls Tryz.prog 35 #[.int .i64 a0] w fun e w' => e = .returned (.string r) ∧ Below w.heap.size w w' := by
 have HL0 := Aside0.mk hL
 clear hL
 have HB := Aside0.mk (Below.refl w.heap.size w)
 have H : ((strconv_FormatInt.f a0 10).bind fun t112 => (some t112)) = some r := h
 clear h
 obtain ⟨t112, A2, H⟩ := bs H
 try dsimp only at H
 obtain rfl := Option.some.inj H
 go_enter Tryz.func35, Tryz.ntmps35
 go_wp2_with (first | (refine gL (some 4) rfl Tryz.func63 #[.int .i64 a0, .int .i64 10] ?_; (with_reducible refine (strconv_FormatInt.calls (hL := ld) a0 10 t112 _ A2.out).mono ?_); rintro e w3 ⟨rfl, hb⟩; refine ⟨_, rfl, ?_⟩; replace HB := cW HB hb; (try clear hb)))
 go_ret
 exact ⟨re_, uW HB.out⟩
def reply_Stored.f (a0 : Int) : Option (ByteArray) := (sat_Number.f a0).bind fun t113 => ((reply_say.f (([(⟨#[111, 107]⟩ : ByteArray), t113] : List ByteArray))).bind fun t117 => (some t117))
theorem reply_Stored.calls (a0 : Int) (r : ByteArray) (w : World) (hL : LD w) (h : reply_Stored.f a0 = some r) :
 Calls Tryz.prog 10 #[.int .i64 a0] w fun e w' => e = .returned (.string r) ∧ Below w.heap.size w w' := by
 have HL0 := Aside0.mk hL
 clear hL
 have HB := Aside0.mk (Below.refl w.heap.size w)
 have H : ((sat_Number.f a0).bind fun t113 => ((reply_say.f (([(⟨#[111, 107]⟩ : ByteArray), t113] : List ByteArray))).bind fun t117 => (some t117))) = some r := h
 clear h
 obtain ⟨t113, A2, H⟩ := bs H
 try dsimp only at H
 obtain ⟨y114, hy114⟩ : ∃ y_ : List ByteArray, y_ = (([(⟨#[111, 107]⟩ : ByteArray), t113] : List ByteArray)) := ⟨_, rfl⟩
 replace H : ((reply_say.f y114).bind fun t117 => (some t117)) = some r := by first | (rw [hy114]; with_reducible exact H) | (have H2_ := (Option.bind_some _ _).symm.trans H; rw [hy114]; with_reducible exact H2_) | (have H2_ := (Option.bind_some _ _).symm.trans H; with_reducible exact H2_) | with_reducible exact H | (rw [hy114]; exact H) | exact H
 have Ny114 := Aside0.mk hy114
 clear hy114
 obtain ⟨t117, A3, H⟩ := bs H
 try dsimp only at H
 obtain rfl := Option.some.inj H
 go_enter Tryz.func10, Tryz.ntmps10
 go_wp2_with (first | (refine gL (some 4) rfl Tryz.func35 #[.int .i64 a0] ?_; (with_reducible refine (sat_Number.calls (hL := ld) a0 t113 _ A2.out).mono ?_); rintro e w4 ⟨rfl, hb⟩; refine ⟨_, rfl, ?_⟩; replace HB := cW HB hb; (try clear hb)) | ((with_reducible refine gate_dst (N := 5) rfl ?_); refine Kd.R_lit Kd.string _ 9 ?hg (N := 5) ?hd (xs := ([(⟨#[111, 107]⟩ : ByteArray), t113] : List ByteArray)) (inner := [.string (⟨#[111, 107]⟩ : ByteArray), .string t113]) (ok := fun _ => True) (okp := fun _ => True) ?hr ?hp (fun _ hk => hk) trivial (Below.refl _ _) (Nat.le_refl _) (by simp) ?_; (case hd => rfl); (case hg => rfl); (case hr => first | (go_simp; done) | (go_simp; rfl)); (case hp => exact (Reps.one (show Kd.M Kd.string _ _ _ (⟨#[111, 107]⟩ : ByteArray) [.string (⟨#[111, 107]⟩ : ByteArray)] from rfl) (Reps.one (show Kd.M Kd.string _ _ _ t113 [.string t113] from rfl) (Reps.none _ _)))); intro v115 w5 ho6 hb hg_ hnew_; clear hg_ hnew_; (first | rw [← Ny114.out] at ho6 | (simp only [Int.reduceToNat] at ho6; rw [← Ny114.out] at ho6)); have HO116 := Aside0.mk (Kd.R_lower ho6 (below_size (uW HB.out))); replace HB := cW HB hb; clear hb ho6; obtain ⟨Ao7, co7, eo7⟩ := Kd.R_slice HO116.out; subst eo7) | (refine gL (some 6) rfl Tryz.func33 #[.slice Ao7 y114.length co7] ?_; (with_reducible refine (reply_say.calls _ _ y114 t117 _ ?side1 ?side2 A3.out).mono ?_); (case side1 => exact uC <| (Kd.R_reads' HO116.out).2.2); (case side2 => exact (Kd.R_reads' HO116.out).2.1); rintro e w8 ⟨rfl, hb⟩; refine ⟨_, rfl, ?_⟩; replace HO116 := cR HO116 hb; replace HB := cW HB hb; (try clear hb)))
 go_ret
 exact ⟨re_, uW HB.out⟩
def reply_Sub.f (a0 : Int) : Option (ByteArray) := (sat_Number.f a0).bind fun t118 => ((reply_say.f (([(⟨#[115, 117, 98]⟩ : ByteArray), t118] : List ByteArray))).bind fun t122 => (some t122))
theorem reply_Sub.calls (a0 : Int) (r : ByteArray) (w : World) (hL : LD w) (h : reply_Sub.f a0 = some r) :
 Calls Tryz.prog 12 #[.int .i64 a0] w fun e w' => e = .returned (.string r) ∧ Below w.heap.size w w' := by
 have HL0 := Aside0.mk hL
 clear hL
 have HB := Aside0.mk (Below.refl w.heap.size w)
 have H : ((sat_Number.f a0).bind fun t118 => ((reply_say.f (([(⟨#[115, 117, 98]⟩ : ByteArray), t118] : List ByteArray))).bind fun t122 => (some t122))) = some r := h
 clear h
 obtain ⟨t118, A2, H⟩ := bs H
 try dsimp only at H
 obtain ⟨y119, hy119⟩ : ∃ y_ : List ByteArray, y_ = (([(⟨#[115, 117, 98]⟩ : ByteArray), t118] : List ByteArray)) := ⟨_, rfl⟩
 replace H : ((reply_say.f y119).bind fun t122 => (some t122)) = some r := by first | (rw [hy119]; with_reducible exact H) | (have H2_ := (Option.bind_some _ _).symm.trans H; rw [hy119]; with_reducible exact H2_) | (have H2_ := (Option.bind_some _ _).symm.trans H; with_reducible exact H2_) | with_reducible exact H | (rw [hy119]; exact H) | exact H
 have Ny119 := Aside0.mk hy119
 clear hy119
 obtain ⟨t122, A3, H⟩ := bs H
 try dsimp only at H
 obtain rfl := Option.some.inj H
 go_enter Tryz.func12, Tryz.ntmps12
 go_wp2_with (first | (refine gL (some 4) rfl Tryz.func35 #[.int .i64 a0] ?_; (with_reducible refine (sat_Number.calls (hL := ld) a0 t118 _ A2.out).mono ?_); rintro e w4 ⟨rfl, hb⟩; refine ⟨_, rfl, ?_⟩; replace HB := cW HB hb; (try clear hb)) | ((with_reducible refine gate_dst (N := 5) rfl ?_); refine Kd.R_lit Kd.string _ 9 ?hg (N := 5) ?hd (xs := ([(⟨#[115, 117, 98]⟩ : ByteArray), t118] : List ByteArray)) (inner := [.string (⟨#[115, 117, 98]⟩ : ByteArray), .string t118]) (ok := fun _ => True) (okp := fun _ => True) ?hr ?hp (fun _ hk => hk) trivial (Below.refl _ _) (Nat.le_refl _) (by simp) ?_; (case hd => rfl); (case hg => rfl); (case hr => first | (go_simp; done) | (go_simp; rfl)); (case hp => exact (Reps.one (show Kd.M Kd.string _ _ _ (⟨#[115, 117, 98]⟩ : ByteArray) [.string (⟨#[115, 117, 98]⟩ : ByteArray)] from rfl) (Reps.one (show Kd.M Kd.string _ _ _ t118 [.string t118] from rfl) (Reps.none _ _)))); intro v120 w5 ho6 hb hg_ hnew_; clear hg_ hnew_; (first | rw [← Ny119.out] at ho6 | (simp only [Int.reduceToNat] at ho6; rw [← Ny119.out] at ho6)); have HO121 := Aside0.mk (Kd.R_lower ho6 (below_size (uW HB.out))); replace HB := cW HB hb; clear hb ho6; obtain ⟨Ao7, co7, eo7⟩ := Kd.R_slice HO121.out; subst eo7) | (refine gL (some 6) rfl Tryz.func33 #[.slice Ao7 y119.length co7] ?_; (with_reducible refine (reply_say.calls _ _ y119 t122 _ ?side1 ?side2 A3.out).mono ?_); (case side1 => exact uC <| (Kd.R_reads' HO121.out).2.2); (case side2 => exact (Kd.R_reads' HO121.out).2.1); rintro e w8 ⟨rfl, hb⟩; refine ⟨_, rfl, ?_⟩; replace HO121 := cR HO121 hb; replace HB := cW HB hb; (try clear hb)))
 go_ret
 exact ⟨re_, uW HB.out⟩
def reply_Stat.l0 : Nat → List ByteArray → List Int → Int → Int → Option (ByteArray)
 | 0, _, _, _, _ => none
 | k + 1, x3, x7, x8, x9 => if x9 < x8 then (if 0 ≤ x9 then (if x9 < (x7.length : Int) then ((sat_Number.f (rd x7 x9)).bind fun t127 => (if x3.length < 8796093022208 then (reply_Stat.l0 k (x3 ++ [t127]) x7 x8 (wrap64 (x9 + 1))) else (none))) else (none)) else (none)) else ((reply_say.f x3).bind fun t131 => (some t131))
def reply_Stat.f (k : Nat) (l0 : List Int) : Option (ByteArray) := reply_Stat.l0 k (([(⟨#[115, 116, 97, 116]⟩ : ByteArray)] : List ByteArray)) l0 (l0.length : Int) 0
theorem reply_Stat.mono_l : ∀ k, (∀ y0 y1 y2 y3, LeC (reply_Stat.l0 k y0 y1 y2 y3) (reply_Stat.l0 (k + 1) y0 y1 y2 y3))
 | 0 => fun _ _ _ _ => ⟨fun r h => by simp [reply_Stat.l0] at h⟩
 | k + 1 => by have ih0 := reply_Stat.mono_l k; exact fun _ _ _ _ => by unfold reply_Stat.l0; exact lm
theorem reply_Stat.mono : ∀ a0 k, LeO (reply_Stat.f k a0) (reply_Stat.f (k + 1) a0) := by
 intro a0 k
 have ih0 := reply_Stat.mono_l k
 unfold reply_Stat.f
 exact lo
instance reply_Stat.mI {a0 k} : LeC (reply_Stat.f k a0) (reply_Stat.f (k + 1) a0) := ⟨reply_Stat.mono _ _⟩
theorem reply_Stat.calls (k : Nat) (A0 : Option Addr) (c0 : Nat) (l0 : List Int) (r : ByteArray) (w : World) (hr0 : Kd.C (Kd.int .i64) w A0 l0.length l0) (hc0 : l0.length ≤ c0) (hL : LD w) (h : reply_Stat.f k l0 = some r) :
 Calls Tryz.prog 14 #[.slice A0 l0.length c0] w fun e w' => e = .returned (.string r) ∧ Below w.heap.size w w' := by
 have HL0 := Aside0.mk hL
 clear hL
 have HR0 := Aside0.mk hr0
 have HC0 := Aside0.mk hc0
 clear hr0 hc0
 have HB := Aside0.mk (Below.refl w.heap.size w)
 have H : (reply_Stat.l0 k (([(⟨#[115, 116, 97, 116]⟩ : ByteArray)] : List ByteArray)) l0 (l0.length : Int) 0) = some r := h
 clear h
 obtain ⟨y123, hy123⟩ : ∃ y_ : List ByteArray, y_ = (([(⟨#[115, 116, 97, 116]⟩ : ByteArray)] : List ByteArray)) := ⟨_, rfl⟩
 replace H : (reply_Stat.l0 k y123 l0 (l0.length : Int) 0) = some r := by first | (rw [hy123]; with_reducible exact H) | (have H2_ := (Option.bind_some _ _).symm.trans H; rw [hy123]; with_reducible exact H2_) | (have H2_ := (Option.bind_some _ _).symm.trans H; with_reducible exact H2_) | with_reducible exact H | (rw [hy123]; exact H) | exact H
 have Ny123 := Aside0.mk hy123
 clear hy123
 have H' := Aside0.mk H
 clear H
 go_enter Tryz.func14, Tryz.ntmps14
 go_wp2_with (first | ((with_reducible refine gate_dst (N := 6) rfl ?_); refine Kd.R_lit Kd.string _ 9 ?hg (N := 6) ?hd (xs := ([(⟨#[115, 116, 97, 116]⟩ : ByteArray)] : List ByteArray)) (inner := [.string (⟨#[115, 116, 97, 116]⟩ : ByteArray)]) (ok := fun _ => True) (okp := fun _ => True) ?hr ?hp (fun _ hk => hk) trivial (Below.refl _ _) (Nat.le_refl _) (by simp) ?_; (case hd => rfl); (case hg => rfl); (case hr => first | (go_simp; done) | (go_simp; rfl)); (case hp => exact (Reps.one (show Kd.M Kd.string _ _ _ (⟨#[115, 116, 97, 116]⟩ : ByteArray) [.string (⟨#[115, 116, 97, 116]⟩ : ByteArray)] from rfl) (Reps.none _ _))); intro v124 w2 ho3 hb hg_ hnew_; clear hg_ hnew_; (first | rw [← Ny123.out] at ho3 | (simp only [Int.reduceToNat] at ho3; rw [← Ny123.out] at ho3)); have HO125 := Aside0.mk (Kd.R_lower ho3 (below_size (uW HB.out))); replace HB := cW HB hb; clear hb ho3))
 go_loopg [3, 9] k (fun kq v3 v9 w' => ∃ (x3_1 : List ByteArray) (x9_1 : Int), v9 = .int .i64 x9_1 ∧ Aside0 (reply_Stat.l0 kq x3_1 l0 (l0.length : Int) x9_1 = some r) ∧ Aside0 (kq ≤ k) ∧ Aside0 (Kd.R Kd.string 9 w' w.heap.size (fun _ => True) v3 x3_1) ∧ Aside0 (Below w.heap.size w w'))
 case atStart => exact ⟨(y123), (0), rs_, H', ⟨Nat.le_refl _⟩, ⟨uR HO125.out⟩, ⟨uW HB.out⟩⟩
 case round =>
  clear H'
  obtain ⟨x3_1, x9_1, rfl, HA, HK1, HO_3, HB⟩ := hrel
  cases gk with
  | zero => exact absurd HA.out (by simp [reply_Stat.l0])
  | succ k1 =>
   have H := HA.out
   clear HA
   simp only [reply_Stat.l0] at H
   by_cases c4 : x9_1 < (l0.length : Int)
   ·
    rw [if_pos c4] at H
    have c4b0 : decide (x9_1 < (l0.length : Int)) = true := decide_eq_true c4
    clear c4
    obtain ⟨c5b0, H⟩ := gdd H
    obtain ⟨c6b0, H⟩ := gdd H
    obtain ⟨t127, A7, H⟩ := bs H
    try dsimp only at H
    obtain ⟨c8, H⟩ := gd H
    have LMc8 := Aside0.mk c8
    clear c8
    obtain ⟨y128, hy128⟩ : ∃ y_ : List ByteArray, y_ = (x3_1 ++ [t127]) := ⟨_, rfl⟩
    replace H : (reply_Stat.l0 k1 y128 l0 (l0.length : Int) (wrap64 (x9_1 + 1))) = some r := by first | (rw [hy128]; with_reducible exact H) | (have H2_ := (Option.bind_some _ _).symm.trans H; rw [hy128]; with_reducible exact H2_) | (have H2_ := (Option.bind_some _ _).symm.trans H; with_reducible exact H2_) | with_reducible exact H | (rw [hy128]; exact H) | exact H
    have Ny128 := Aside0.mk hy128
    clear hy128
    have H' := Aside0.mk H
    clear H
    have p126 : 0 ≤ (x9_1 : Int) := od
    have q126 : x9_1 < (l0.length : Int) := od
    obtain ⟨ad126, e126, hx126_0⟩ := Kd.at_int HR0.out x9_1 p126 q126
    cases e126
    replace hx126_0 := kc HB hx126_0
    replace p126 := eq_true p126
    replace q126 := eq_true q126
    go_wp2_with (first | (refine gL (some 15) rfl Tryz.func35 #[.int .i64 (rd l0 x9_1)] ?_; (with_reducible refine (sat_Number.calls (hL := ld) (rd l0 x9_1) t127 _ A7.out).mono ?_); rintro e w9 ⟨rfl, hb⟩; refine ⟨_, rfl, ?_⟩; replace HO_3 := cR HO_3 hb; replace HB := cW HB hb; (try clear hb)) | ((with_reducible refine gate_builtin (b := .append) (xs := #[.tmp 13, .tmp 16]) rfl ?_); at_builtin; refine Kd.R_append Kd.string (w0 := w) w.heap.size rfl (.tmp 13) (.tmp 16) 56 9 (.string ⟨#[]⟩) 16 rfl Tryz.underlying56 info9 rfl (by decide) (by omega) u3 x3_1 t127 [.string t127] (fun _ => True) (fun _ => False) rfl rfl ?aP (fun _ hk => hk.elim) ?aF ?aO ?aB ?aS ?aL ?_; (case aP => exact rfl); (case aB => exact (uW HB.out)); (case aF => exact (fun _ _ => trivial)); (case aO => exact (uR HO_3.out)); (case aS => exact (below_size (uW HB.out))); (case aL => have := LMc8.out; omega); intro v129 w10 ho hb hg hat; rw [← Ny128.out] at ho; replace HB := Aside0.mk (hb); have HO130 := Aside0.mk (ho); clear HO_3; clear ho hb hg hat))
    go_roundg k1
    case measure => have := HK1.out; omega
    case rel => exact ⟨(y128), (wrap64 (x9_1 + 1)), rs_, H', ⟨by have := HK1.out; omega⟩, ⟨uR HO130.out⟩, ⟨uW HB.out⟩⟩
   ·
    rw [if_neg c4] at H
    have c4b0 : decide (x9_1 < (l0.length : Int)) = false := decide_eq_false c4
    clear c4
    obtain ⟨t131, A11, H⟩ := bs H
    try dsimp only at H
    obtain rfl := Option.some.inj H
    obtain ⟨Ao12, co12, eo12⟩ := Kd.R_slice HO_3.out
    subst eo12
    go_wp2_with (first | (refine gL (some 20) rfl Tryz.func33 #[.slice Ao12 x3_1.length co12] ?_; (with_reducible refine (reply_say.calls _ _ x3_1 t131 _ ?side1 ?side2 A11.out).mono ?_); (case side1 => exact uC <| (Kd.R_reads' HO_3.out).2.2); (case side2 => exact (Kd.R_reads' HO_3.out).2.1); rintro e w13 ⟨rfl, hb⟩; refine ⟨_, rfl, ?_⟩; replace HO_3 := cR HO_3 hb; replace HB := cW HB hb; (try clear hb)))
    go_ret
    exact ⟨re_, uW HB.out⟩
def sat_Text.f (a0_0 : Int) (a0_1 : Bool) : Option (ByteArray) := if a0_1 = true then ((sat_Number.f a0_0).bind fun t133 => (if t133.size + 1 ≤ 9223372036854775807 then (some (t133 ++ (⟨#[33]⟩ : ByteArray))) else (none))) else ((sat_Number.f a0_0).bind fun t134 => (some t134))
theorem sat_Text.calls (a0_0 : Int) (a0_1 : Bool) (r : ByteArray) (w : World) (hL : LD w) (h : sat_Text.f a0_0 a0_1 = some r) :
 Calls Tryz.prog 64 #[.agg #[.int .i64 a0_0, .bool a0_1]] w fun e w' => e = .returned (.string r) ∧ Below w.heap.size w w' := by
 have HL0 := Aside0.mk hL
 clear hL
 have hu58 := Tryz.underlying58
 have HB := Aside0.mk (Below.refl w.heap.size w)
 have H : (if a0_1 = true then ((sat_Number.f a0_0).bind fun t133 => (if t133.size + 1 ≤ 9223372036854775807 then (some (t133 ++ (⟨#[33]⟩ : ByteArray))) else (none))) else ((sat_Number.f a0_0).bind fun t134 => (some t134))) = some r := h
 clear h
 by_cases c2 : a0_1 = true
 ·
  subst c2
  rw [if_pos rfl] at H
  obtain ⟨t133, A3, H⟩ := bs H
  try dsimp only at H
  obtain ⟨c4, H⟩ := gd H
  have c4b0 := eq_true c4
  have c4b1 : decide (t133.size + 1 ≤ 9223372036854775807) = true := decide_eq_true c4
  try have c4b2 : (9223372036854775807 < t133.size + 1) = False := eq_false (Nat.not_lt.2 c4)
  obtain rfl := Option.some.inj H
  go_enter Tryz.func64, Tryz.ntmps64
  go_wp2_with (first | ((with_reducible refine gate_dst (N := 1) rfl ?_); refine bx (N := 1) #[.int .i64 a0_0, .bool true] 58 ?_; intro gb132 hg w5 hbox hb; have BK132 := Aside0.mk (hbox); have GW132 := gw hg (uW HB.out); have GE132 := GW132; replace HB := cW HB hb; clear hb hbox hg; obtain ⟨hcz6_0, hcz6_1, hfz6_0, hfz6_1⟩ := z2 BK132) | (refine gL (some 7) rfl Tryz.func35 #[.int .i64 a0_0] ?_; (with_reducible refine (sat_Number.calls (hL := ld) a0_0 t133 _ A3.out).mono ?_); rintro e w7 ⟨rfl, hb⟩; refine ⟨_, rfl, ?_⟩; replace BK132 := cB BK132 hb; replace HB := Aside0.mk (below_step bl hb); (try clear hb)))
  go_ret
  exact ⟨re_, bl⟩
 ·
  replace c2 := Bool.eq_false_iff.mpr c2
  subst c2
  rw [if_neg (show ¬ (false = true) by decide)] at H
  obtain ⟨t134, A8, H⟩ := bs H
  try dsimp only at H
  obtain rfl := Option.some.inj H
  go_enter Tryz.func64, Tryz.ntmps64
  go_wp2_with (first | ((with_reducible refine gate_dst (N := 1) rfl ?_); refine bx (N := 1) #[.int .i64 a0_0, .bool false] 58 ?_; intro gb132 hg w9 hbox hb; have BK132 := Aside0.mk (hbox); have GW132 := gw hg (uW HB.out); have GE132 := GW132; replace HB := cW HB hb; clear hb hbox hg; obtain ⟨hcz10_0, hcz10_1, hfz10_0, hfz10_1⟩ := z2 BK132) | (refine gL (some 11) rfl Tryz.func35 #[.int .i64 a0_0] ?_; (with_reducible refine (sat_Number.calls (hL := ld) a0_0 t134 _ A8.out).mono ?_); rintro e w11 ⟨rfl, hb⟩; refine ⟨_, rfl, ?_⟩; replace BK132 := cB BK132 hb; replace HB := Aside0.mk (below_step bl hb); (try clear hb)))
  go_ret
  exact ⟨re_, bl⟩
def row_Text.l0 : Nat → List ByteArray → List (S60) → Int → Int → Option (ByteArray)
 | 0, _, _, _, _ => none
 | k + 1, x3, x9, x10, x11 => if x11 < x10 then (if 0 ≤ x11 then (if x11 < (x9.length : Int) then ((sat_Number.f ((rd_T60 x9 x11).f0)).bind fun t137 => ((sat_Text.f ((rd_T60 x9 x11).f2.f0) ((rd_T60 x9 x11).f2.f1)).bind fun t138 => ((word_Join.f (⟨#[124]⟩ : ByteArray) (([t137, (rd_T60 x9 x11).f1, t138] : List ByteArray))).bind fun t142 => (if x3.length < 8796093022208 then (row_Text.l0 k (x3 ++ [t142]) x9 x10 (wrap64 (x11 + 1))) else (none))))) else (none)) else (none)) else ((word_Join.f (⟨#[59]⟩ : ByteArray) x3).bind fun t146 => (some t146))
def row_Text.f (k : Nat) (l0 : List (S60)) : Option (ByteArray) := if (l0.length : Int) = 0 then (some (⟨#[45]⟩ : ByteArray)) else (row_Text.l0 k ([] : List ByteArray) l0 (l0.length : Int) 0)
theorem row_Text.mono_l : ∀ k, (∀ y0 y1 y2 y3, LeC (row_Text.l0 k y0 y1 y2 y3) (row_Text.l0 (k + 1) y0 y1 y2 y3))
 | 0 => fun _ _ _ _ => ⟨fun r h => by simp [row_Text.l0] at h⟩
 | k + 1 => by have ih0 := row_Text.mono_l k; exact fun _ _ _ _ => by unfold row_Text.l0; exact lm
theorem row_Text.mono : ∀ a0 k, LeO (row_Text.f k a0) (row_Text.f (k + 1) a0) := by
 intro a0 k
 have ih0 := row_Text.mono_l k
 unfold row_Text.f
 exact lo
instance row_Text.mI {a0 k} : LeC (row_Text.f k a0) (row_Text.f (k + 1) a0) := ⟨row_Text.mono _ _⟩
def row_Text.T7 : Bool × List (List Nat × List Nat) := (true, [([], []), ([], []), ([1], [1]), ([2], [2]), ([], []), ([4], [4]), ([], []), ([6], [6]), ([7, 3], [7]), ([3, 5, 8], [3, 5, 8]), ([9, 8], [9]), ([10], [10]), ([0, 11, 10], [0, 11]), ([12, 12, 0, 1, 2, 3, 4, 5, 6, 7, 8, 9, 10, 11, 12], [0, 12])])
def row_Text.B7 : List Nat := [0, 0, 2, 6, 0, 16, 0, 64, 206, 510, 1022, 2046, 4095, 8191]
theorem row_Text.tab7 : rtab .any (opsOf Tryz.f38 7) = row_Text.T7 := by kernel_rfl
theorem row_Text.bits7 : waitsOk row_Text.T7.2 row_Text.B7 = true := by kernel_rfl
theorem row_Text.calls (k : Nat) (A0 : Option Addr) (c0 : Nat) (l0 : List (S60)) (r : ByteArray) (w : World) (hr0 : Kd.C k60 w A0 l0.length l0) (hc0 : l0.length ≤ c0) (hL : LD w) (h : row_Text.f k l0 = some r) :
 Calls Tryz.prog 38 #[.slice A0 l0.length c0] w fun e w' => e = .returned (.string r) ∧ Below w.heap.size w w' := by
 have HL0 := Aside0.mk hL
 clear hL
 have hu60 := Tryz.underlying60
 have hu58 := Tryz.underlying58
 have HR0 := Aside0.mk hr0
 have HC0 := Aside0.mk hc0
 clear hr0 hc0
 have HB := Aside0.mk (Below.refl w.heap.size w)
 have H : (if (l0.length : Int) = 0 then (some (⟨#[45]⟩ : ByteArray)) else (row_Text.l0 k ([] : List ByteArray) l0 (l0.length : Int) 0)) = some r := h
 clear h
 by_cases c2 : (l0.length : Int) = 0
 ·
  rw [if_pos c2] at H
  have c2b0 : ((l0.length : Int) == 0) = true := beq_iff_eq.mpr c2
  have c2b1 : ((l0.length : Int) != 0) = false := bne_eq_false_iff_eq.mpr c2
  clear c2
  obtain rfl := Option.some.inj H
  go_enter Tryz.func38, Tryz.ntmps38
  go_wp2
  go_ret
  exact ⟨re_, uW HB.out⟩
 ·
  rw [if_neg c2] at H
  have c2b0 : ((l0.length : Int) == 0) = false := beq_eq_false_iff_ne.mpr c2
  have c2b1 : ((l0.length : Int) != 0) = true := bne_iff_ne.mpr c2
  have c2b2 : ¬ (l0 = []) := fun h_ => c2 (by rw [h_]; rfl)
  have H' := Aside0.mk H
  clear H
  go_enter Tryz.func38, Tryz.ntmps38
  go_wp2
  go_loopg [3, 11] k (fun kq v3 v11 w' => ∃ (x3_1 : List ByteArray) (x11_1 : Int), v11 = .int .i64 x11_1 ∧ Aside0 (row_Text.l0 kq x3_1 l0 (l0.length : Int) x11_1 = some r) ∧ Aside0 (kq ≤ k) ∧ Aside0 (Kd.R Kd.string 9 w' w.heap.size (fun _ => True) v3 x3_1) ∧ Aside0 (Below w.heap.size w w'))
  case atStart => exact ⟨(([] : List ByteArray)), (0), rs_, H', ⟨Nat.le_refl _⟩, ⟨nl_⟩, ⟨uW HB.out⟩⟩
  case round =>
   clear H'
   try clear c2
   try clear c2b0
   try clear c2b1
   try clear c2b2
   obtain ⟨x3_1, x11_1, rfl, HA, HK1, HO_3, HB⟩ := hrel
   cases gk with
   | zero => exact absurd HA.out (by simp [row_Text.l0])
   | succ k1 =>
    have H := HA.out
    clear HA
    simp only [row_Text.l0] at H
    by_cases c3 : x11_1 < (l0.length : Int)
    ·
     rw [if_pos c3] at H
     have c3b0 : decide (x11_1 < (l0.length : Int)) = true := decide_eq_true c3
     clear c3
     obtain ⟨c4b0, H⟩ := gdd H
     obtain ⟨c5b0, H⟩ := gdd H
     obtain ⟨t137, A6, H⟩ := bs H
     try dsimp only at H
     obtain ⟨t138, A7, H⟩ := bs H
     try dsimp only at H
     obtain ⟨y139, hy139⟩ : ∃ y_ : List ByteArray, y_ = (([t137, (rd_T60 l0 x11_1).f1, t138] : List ByteArray)) := ⟨_, rfl⟩
     replace H : ((word_Join.f (⟨#[124]⟩ : ByteArray) y139).bind fun t142 => (if x3_1.length < 8796093022208 then (row_Text.l0 k1 (x3_1 ++ [t142]) l0 (l0.length : Int) (wrap64 (x11_1 + 1))) else (none))) = some r := by first | (rw [hy139]; with_reducible exact H) | (have H2_ := (Option.bind_some _ _).symm.trans H; rw [hy139]; with_reducible exact H2_) | (have H2_ := (Option.bind_some _ _).symm.trans H; with_reducible exact H2_) | with_reducible exact H | (rw [hy139]; exact H) | exact H
     have Ny139 := Aside0.mk hy139
     clear hy139
     obtain ⟨t142, A8, H⟩ := bs H
     try dsimp only at H
     obtain ⟨c9, H⟩ := gd H
     have LMc9 := Aside0.mk c9
     clear c9
     obtain ⟨y143, hy143⟩ : ∃ y_ : List ByteArray, y_ = (x3_1 ++ [t142]) := ⟨_, rfl⟩
     replace H : (row_Text.l0 k1 y143 l0 (l0.length : Int) (wrap64 (x11_1 + 1))) = some r := by first | (rw [hy143]; with_reducible exact H) | (have H2_ := (Option.bind_some _ _).symm.trans H; rw [hy143]; with_reducible exact H2_) | (have H2_ := (Option.bind_some _ _).symm.trans H; with_reducible exact H2_) | with_reducible exact H | (rw [hy143]; exact H) | exact H
     have Ny143 := Aside0.mk hy143
     clear hy143
     have H' := Aside0.mk H
     clear H
     have p135 : 0 ≤ (x11_1 : Int) := od
     have q135 : x11_1 < (l0.length : Int) := od
     obtain ⟨ad135, e135, hx135_0, hx135_1, hx135_2, hx135_3⟩ := at_T60 HR0.out x11_1 p135 q135
     cases e135
     replace hx135_0 := kc HB hx135_0
     replace hx135_1 := kc HB hx135_1
     replace hx135_2 := kc HB hx135_2
     replace hx135_3 := kc HB hx135_3
     replace p135 := eq_true p135
     replace q135 := eq_true q135
     try go_wp2_with (first | ((with_reducible refine gate_dst (N := 5) rfl ?_); refine bx (N := 5) #[.int .i64 0, .string (⟨#[]⟩ : ByteArray), .int .i64 0, .bool false] 60 ?_; intro gb136 hg w10 hbox hb; replace HO_3 := cR HO_3 hb; have BK136 := Aside0.mk (hbox); have GW136 := gw hg (uW HB.out); have GE136 := GW136; replace HB := cW HB hb; clear hb hbox hg; obtain ⟨hcz11_0, hcz11_1, hcz11_2, hcz11_3, hfz11_0, hfz11_1, hfz11_2, hfz11_3⟩ := z4 BK136))
     have n0_ : Aside0 (Kd.R Kd.string 9 ((((w10.setCell ⟨gb136, 0, none⟩ (.int .i64 ((rd_T60 l0 x11_1).f0))).setCell ⟨gb136, 1, none⟩ (.string ((rd_T60 l0 x11_1).f1))).setCell ⟨gb136, 2, none⟩ (.int .i64 ((rd_T60 l0 x11_1).f2.f0))).setCell ⟨gb136, 3, none⟩ (.bool ((rd_T60 l0 x11_1).f2.f1))) w.heap.size (fun _ => True) u3 x3_1) := ⟨by exact Kd.R_mono (fR_ (Kd.R_types HO_3.out BK136.out (by decide)) fun _ h => h.2) (fun _ hk => trivial)⟩
     have n1_ : Aside0 (((((w10.setCell ⟨gb136, 0, none⟩ (.int .i64 ((rd_T60 l0 x11_1).f0))).setCell ⟨gb136, 1, none⟩ (.string ((rd_T60 l0 x11_1).f1))).setCell ⟨gb136, 2, none⟩ (.int .i64 ((rd_T60 l0 x11_1).f2.f0))).setCell ⟨gb136, 3, none⟩ (.bool ((rd_T60 l0 x11_1).f2.f1))).heap[gb136]? = some (.cells #[.int .i64 ((rd_T60 l0 x11_1).f0), .string ((rd_T60 l0 x11_1).f1), .int .i64 ((rd_T60 l0 x11_1).f2.f0), .bool ((rd_T60 l0 x11_1).f2.f1)] 60 (0, 0))) := ⟨by (with_reducible repeat (first | refine blk_drewN ?_ _ | refine blk_drew ?_ | refine blk_alloc ?_ _)); refine blk_put (cs := #[.int .i64 ((rd_T60 l0 x11_1).f0), .string ((rd_T60 l0 x11_1).f1), .int .i64 ((rd_T60 l0 x11_1).f2.f0), .bool false]) ?_ 3 _ rfl; (with_reducible repeat (first | refine blk_drewN ?_ _ | refine blk_drew ?_ | refine blk_alloc ?_ _)); refine blk_put (cs := #[.int .i64 ((rd_T60 l0 x11_1).f0), .string ((rd_T60 l0 x11_1).f1), .int .i64 0, .bool false]) ?_ 2 _ rfl; (with_reducible repeat (first | refine blk_drewN ?_ _ | refine blk_drew ?_ | refine blk_alloc ?_ _)); refine blk_put (cs := #[.int .i64 ((rd_T60 l0 x11_1).f0), .string (⟨#[]⟩ : ByteArray), .int .i64 0, .bool false]) ?_ 1 _ rfl; (with_reducible repeat (first | refine blk_drewN ?_ _ | refine blk_drew ?_ | refine blk_alloc ?_ _)); refine blk_put (cs := #[.int .i64 0, .string (⟨#[]⟩ : ByteArray), .int .i64 0, .bool false]) ?_ 0 _ rfl; exact uB <| BK136.out⟩
     have n2_ : Aside0 (Below w.heap.size w ((((w10.setCell ⟨gb136, 0, none⟩ (.int .i64 ((rd_T60 l0 x11_1).f0))).setCell ⟨gb136, 1, none⟩ (.string ((rd_T60 l0 x11_1).f1))).setCell ⟨gb136, 2, none⟩ (.int .i64 ((rd_T60 l0 x11_1).f2.f0))).setCell ⟨gb136, 3, none⟩ (.bool ((rd_T60 l0 x11_1).f2.f1)))) := ⟨bl⟩
     (try clear HO_3)
     (try clear BK136)
     (try clear HB)
     generalize ((((w10.setCell ⟨gb136, 0, none⟩ (.int .i64 ((rd_T60 l0 x11_1).f0))).setCell ⟨gb136, 1, none⟩ (.string ((rd_T60 l0 x11_1).f1))).setCell ⟨gb136, 2, none⟩ (.int .i64 ((rd_T60 l0 x11_1).f2.f0))).setCell ⟨gb136, 3, none⟩ (.bool ((rd_T60 l0 x11_1).f2.f1))) = w12 at n0_ n1_ n2_ ⊢
     have HO_3 := n0_
     have BK136 := n1_
     have HB := n2_
     clear n0_ n1_ n2_
     replace HO_3 := Aside0.mk (Kd.R_drew HO_3.out)
     replace BK136 := Aside0.mk (blk_drew BK136.out)
     replace HB := Aside0.mk (below_drew1 HB.out)
     refine start_ (n := 14) (S := fun w' => w'.cell? ⟨gb136, 0, none⟩ = some (.int .i64 ((rd_T60 l0 x11_1).f0)) ∧ w'.cell? ⟨gb136, 1, none⟩ = some (.string ((rd_T60 l0 x11_1).f1)) ∧ w'.cell? ⟨gb136, 2, none⟩ = some (.int .i64 ((rd_T60 l0 x11_1).f2.f0)) ∧ w'.cell? ⟨gb136, 3, none⟩ = some (.bool ((rd_T60 l0 x11_1).f2.f1))) (ds := []) _ (by kernel_rfl) rfl rfl ⟨(blk_cell BK136.out 0).trans rfl, (blk_cell BK136.out 1).trans rfl, (blk_cell BK136.out 2).trans rfl, (blk_cell BK136.out 3).trans rfl⟩ (fun hHeld => ?_); refine with_tabW row_Text.tab7 row_Text.bits7 (fun HT_ HW_ => ?_)
     generalize w12.drew = w13 at HO_3 BK136 HB hHeld ⊢
     refine p1 0 (some 15) ?_
     refine p1 1 (some 16) ?_
     refine p1 4 (some 19) ?_
     refine p1 6 (some 21) ?_
     refine t1 2 (some 17) rfl rfl hHeld (Or.inl ⟨by rfl, by rintro w' ⟨s0, s1, s2, s3⟩; go_simp; with_reducible rfl⟩) ?_
     refine t1 5 (some 20) rfl rfl hHeld (Or.inl ⟨by rfl, by rintro w' ⟨s0, s1, s2, s3⟩; go_simp; with_reducible rfl⟩) ?_
     refine t1 7 (some 22) rfl rfl hHeld (Or.inl ⟨by rfl, by rintro w' ⟨s0, s1, s2, s3⟩; go_simp; with_reducible rfl⟩) ?_
     refine o1 3 (some 18) rfl rfl (fun K hK => ?_)
     refine gS Tryz.func35 #[.int .i64 ((rd_T60 l0 x11_1).f0)] ?_
     with_reducible refine (sat_Number.calls (hL := ld) ((rd_T60 l0 x11_1).f0) t137 _ A6.out).mono ?_
     rintro e w14 ⟨rfl, hb⟩
     refine ⟨_, rfl, ?_⟩
     replace HO_3 := cR HO_3 hb
     replace BK136 := cB BK136 hb
     replace HB := Aside0.mk (below_step bl hb)
     (try clear hb)
     refine hK.out _ _ ⟨(blk_cell BK136.out 0).trans rfl, (blk_cell BK136.out 1).trans rfl, (blk_cell BK136.out 2).trans rfl, (blk_cell BK136.out 3).trans rfl⟩ (fun hHeld => ?_)
     clear hK K
     refine norm_ (a' := ?_) ?_ ?_
     rotate_left
     ·
      show Act.put _ (some 18) _ = _
      simp only [Act.put, List.setIfInBounds_toArray, List.set_cons_zero, List.set_cons_succ, i64_w, i32_w]
      rfl
     refine o1 8 (some 23) rfl rfl (fun K hK => ?_)
     refine gS Tryz.func64 #[.agg #[.int .i64 ((rd_T60 l0 x11_1).f2.f0), .bool ((rd_T60 l0 x11_1).f2.f1)]] ?_
     with_reducible refine (sat_Text.calls (hL := ld) ((rd_T60 l0 x11_1).f2.f0) ((rd_T60 l0 x11_1).f2.f1) t138 _ A7.out).mono ?_
     rintro e w15 ⟨rfl, hb⟩
     refine ⟨_, rfl, ?_⟩
     replace HO_3 := cR HO_3 hb
     replace BK136 := cB BK136 hb
     replace HB := Aside0.mk (below_step bl hb)
     (try clear hb)
     refine hK.out _ _ ⟨(blk_cell BK136.out 0).trans rfl, (blk_cell BK136.out 1).trans rfl, (blk_cell BK136.out 2).trans rfl, (blk_cell BK136.out 3).trans rfl⟩ (fun hHeld => ?_)
     clear hK K
     refine norm_ (a' := ?_) ?_ ?_
     rotate_left
     ·
      show Act.put _ (some 23) _ = _
      simp only [Act.put, List.setIfInBounds_toArray, List.set_cons_zero, List.set_cons_succ, i64_w, i32_w]
      rfl
     refine o1 9 (some 24) rfl rfl (fun K hK => ?_)
     refine Kd.R_lit_step Kd.string _ 9 ?hg (N := 24) ?hd (xs := ([t137, (rd_T60 l0 x11_1).f1, t138] : List ByteArray)) (inner := [.string t137, .string ((rd_T60 l0 x11_1).f1), .string t138]) (ok := fun _ => True) (okp := fun _ => True) ?hr ?hp (fun _ hk => hk) trivial (Below.refl _ _) (Nat.le_refl _) (by simp) ?_; (case hd => rfl); (case hg => rfl); (case hr => first | (go_simp; done) | (go_simp; rfl)); (case hp => exact (Reps.one (show Kd.M Kd.string _ _ _ t137 [.string t137] from rfl) (Reps.one (show Kd.M Kd.string _ _ _ ((rd_T60 l0 x11_1).f1) [.string ((rd_T60 l0 x11_1).f1)] from rfl) (Reps.one (show Kd.M Kd.string _ _ _ t138 [.string t138] from rfl) (Reps.none _ _)))))
     intro v140 w16 ho17 hb hg_ hnew_
     clear hg_ hnew_
     (first | rw [← Ny139.out] at ho17 | (simp only [Int.reduceToNat] at ho17; rw [← Ny139.out] at ho17))
     have HO141 := Aside0.mk (Kd.R_lower (Kd.R_new' ho17 (Kd.R_lt (uR HO_3.out))) (below_size bl))
     replace HO_3 := Aside0.mk (Kd.R_elder' (uR HO_3.out) (Kd.R_base ho17) hb)
     replace BK136 := cB BK136 hb
     replace HB := Aside0.mk (below_step bl hb)
     clear hb ho17
     obtain ⟨Ao18, co18, eo18⟩ := Kd.R_slice HO141.out
     (first | subst eo18 | (injection eo18 with f1_ f2_ f3_; have f4_ := f1_.symm; have f5_ := f3_.symm; clear f1_ f2_ f3_; subst f4_; subst f5_))
     refine hK.out _ _ ⟨(blk_cell BK136.out 0).trans rfl, (blk_cell BK136.out 1).trans rfl, (blk_cell BK136.out 2).trans rfl, (blk_cell BK136.out 3).trans rfl⟩ (fun hHeld => ?_)
     clear hK K
     refine norm_ (a' := ?_) ?_ ?_
     rotate_left
     ·
      show Act.put _ (some 24) _ = _
      simp only [Act.put, List.setIfInBounds_toArray, List.set_cons_zero, List.set_cons_succ, i64_w, i32_w]
      rfl
     refine o1 10 (some 25) rfl rfl (fun K hK => ?_)
     refine gS Tryz.func61 #[.string (⟨#[124]⟩ : ByteArray), .slice Ao18 y139.length co18] ?_
     with_reducible refine (word_Join.calls (⟨#[124]⟩ : ByteArray) _ _ y139 t142 _ ?side1 ?side2 A8.out).mono ?_
     (case side1 => exact uC <| (Kd.R_reads' HO141.out).2.2)
     (case side2 => exact (Kd.R_reads' HO141.out).2.1)
     rintro e w19 ⟨rfl, hb⟩
     refine ⟨_, rfl, ?_⟩
     replace HO_3 := cR HO_3 hb
     replace HO141 := cR HO141 hb
     replace BK136 := cB BK136 hb
     replace HB := Aside0.mk (below_step bl hb)
     (try clear hb)
     refine hK.out _ _ ⟨(blk_cell BK136.out 0).trans rfl, (blk_cell BK136.out 1).trans rfl, (blk_cell BK136.out 2).trans rfl, (blk_cell BK136.out 3).trans rfl⟩ (fun hHeld => ?_)
     clear hK K
     refine norm_ (a' := ?_) ?_ ?_
     rotate_left
     ·
      show Act.put _ (some 25) _ = _
      simp only [Act.put, List.setIfInBounds_toArray, List.set_cons_zero, List.set_cons_succ, i64_w, i32_w]
      rfl
     refine o1 11 (some 26) rfl rfl (fun K hK => ?_)
     refine value_ (w1 := ?_) (v := ?_) (by rfl) rfl ?_ ?_
     rotate_left 2
     ·
      go_simp
      constructor
      ·
       rfl
      ·
       rfl
     refine hK.out _ _ ⟨(blk_cell (blk_alloc BK136.out _) 0).trans rfl, (blk_cell (blk_alloc BK136.out _) 1).trans rfl, (blk_cell (blk_alloc BK136.out _) 2).trans rfl, (blk_cell (blk_alloc BK136.out _) 3).trans rfl⟩ (fun hHeld => ?_)
     clear hK K
     refine norm_ (a' := ?_) ?_ ?_
     rotate_left
     ·
      show Act.put _ (some 26) _ = _
      simp only [Act.put, List.setIfInBounds_toArray, List.set_cons_zero, List.set_cons_succ, i64_w, i32_w]
      rfl
     refine o1 12 (some 27) rfl rfl (fun K hK => ?_)
     refine Kd.R_append_step Kd.string (w0 := w) w.heap.size (by rfl) (.tmp 15) (.tmp 26) 56 9 (.string ⟨#[]⟩) 16 rfl Tryz.underlying56 info9 rfl (by decide) (by omega) u3 x3_1 t142 [.string t142] (fun k_ => some k_ ≠ (.slice Ao18 y139.length co18 : Value).ownBlock) (fun _ => False) rfl rfl ?aP (fun _ hk => hk.elim) ?aF ?aO ?aB ?aS ?aL ?_
     (case aP => exact rfl)
     (case aB => exact bl)
     (case aF => exact (fun k_ hk => Kd.fresh' (Kd.R_lt (uR HO141.out)) k_ hk))
     (case aO => exact (by exact uR <| Kd.R_mono HO_3.out (fun _ hk => hk.2)))
     (case aS => exact (below_size bl))
     (case aL => have := LMc9.out; omega)
     intro v144 w20 ho hb hg hat
     rw [← Ny143.out] at ho
     replace BK136 := Aside0.mk (blk_grown (g := gb136) (o := .cells #[.int .i64 ((rd_T60 l0 x11_1).f0), .string ((rd_T60 l0 x11_1).f1), .int .i64 ((rd_T60 l0 x11_1).f2.f0), .bool ((rd_T60 l0 x11_1).f2.f1)] 60 (0, 0)) (uB BK136.out) hg (Kd.R_ne HO_3.out BK136.out (by decide)))
     replace HO141 := Aside0.mk (Kd.R_after (ok := (fun _ => True)) (uR HO141.out) hg hat)
     replace HB := Aside0.mk (hb)
     have HO145 := Aside0.mk (ho)
     clear HO_3
     clear ho hb hg hat
     refine hK.out _ _ ⟨(blk_cell BK136.out 0).trans rfl, (blk_cell BK136.out 1).trans rfl, (blk_cell BK136.out 2).trans rfl, (blk_cell BK136.out 3).trans rfl⟩ (fun hHeld => ?_)
     clear hK K
     refine norm_ (a' := ?_) ?_ ?_
     rotate_left
     ·
      show Act.put _ (some 27) _ = _
      simp only [Act.put, List.setIfInBounds_toArray, List.set_cons_zero, List.set_cons_succ, i64_w, i32_w]
      rfl
     refine p1 13 (some 3) ?_
     refine done_ (done_of HT_.out (by kernel_rfl)) ?_
     try go_wp2
     go_roundg k1
     case measure => have := HK1.out; omega
     case rel => exact ⟨(y143), (wrap64 (x11_1 + 1)), rs_, H', ⟨by have := HK1.out; omega⟩, ⟨by exact uR <| Kd.R_mono HO145.out (fun _ hk => trivial)⟩, ⟨bl⟩⟩
    ·
     rw [if_neg c3] at H
     have c3b0 : decide (x11_1 < (l0.length : Int)) = false := decide_eq_false c3
     clear c3
     obtain ⟨t146, A21, H⟩ := bs H
     try dsimp only at H
     obtain rfl := Option.some.inj H
     obtain ⟨Ao22, co22, eo22⟩ := Kd.R_slice HO_3.out
     subst eo22
     go_wp2_with (first | (refine gL (some 30) rfl Tryz.func61 #[.string (⟨#[59]⟩ : ByteArray), .slice Ao22 x3_1.length co22] ?_; (with_reducible refine (word_Join.calls (⟨#[59]⟩ : ByteArray) _ _ x3_1 t146 _ ?side1 ?side2 A21.out).mono ?_); (case side1 => exact uC <| (Kd.R_reads' HO_3.out).2.2); (case side2 => exact (Kd.R_reads' HO_3.out).2.1); rintro e w23 ⟨rfl, hb⟩; refine ⟨_, rfl, ?_⟩; replace HO_3 := cR HO_3 hb; replace HB := cW HB hb; (try clear hb)))
     go_ret
     exact ⟨re_, uW HB.out⟩
def reply_Rows.f (k : Nat) (a0_0 : Int) (a0_1 : Int) (l0_2 : List (S60)) : Option (ByteArray) := (sat_Number.f a0_1).bind fun t148 => ((row_Text.f k l0_2).bind fun t149 => ((reply_say.f (([(⟨#[114, 111, 119, 115]⟩ : ByteArray), t148, t149] : List ByteArray))).bind fun t153 => (some t153)))
theorem reply_Rows.mono : ∀ a0 a1 a2 k, LeO (reply_Rows.f k a0 a1 a2) (reply_Rows.f (k + 1) a0 a1 a2) := by
 intro a0 a1 a2 k
 unfold reply_Rows.f
 exact lo
instance reply_Rows.mI {a0 a1 a2 k} : LeC (reply_Rows.f k a0 a1 a2) (reply_Rows.f (k + 1) a0 a1 a2) := ⟨reply_Rows.mono _ _ _ _⟩
def reply_Rows.T1 : Bool × List (List Nat × List Nat) := (true, [([], []), ([0], [0]), ([1], [1]), ([], []), ([3], [3]), ([4, 2], [4]), ([2, 5], [2, 5]), ([6, 5], [6]), ([7, 7, 0, 1, 2, 3, 4, 5, 6, 7], [7])])
def reply_Rows.B1 : List Nat := [0, 1, 3, 0, 8, 31, 63, 127, 255]
theorem reply_Rows.tab1 : rtab .any (opsOf Tryz.f18 1) = reply_Rows.T1 := by kernel_rfl
theorem reply_Rows.bits1 : waitsOk reply_Rows.T1.2 reply_Rows.B1 = true := by kernel_rfl
theorem reply_Rows.calls (k : Nat) (a0_0 : Int) (a0_1 : Int) (A0_2 : Option Addr) (c0_2 : Nat) (l0_2 : List (S60)) (r : ByteArray) (w : World) (hr0_2 : Kd.C k60 w A0_2 l0_2.length l0_2) (hc0_2 : l0_2.length ≤ c0_2) (hL : LD w) (h : reply_Rows.f k a0_0 a0_1 l0_2 = some r) :
 Calls Tryz.prog 18 #[.agg #[.int .i64 a0_0, .int .i64 a0_1, .slice A0_2 l0_2.length c0_2]] w fun e w' => e = .returned (.string r) ∧ Below w.heap.size w w' := by
 have HL0 := Aside0.mk hL
 clear hL
 have hu33 := Tryz.underlying33
 have HR0_2 := Aside0.mk hr0_2
 have HC0_2 := Aside0.mk hc0_2
 clear hr0_2 hc0_2
 have HB := Aside0.mk (Below.refl w.heap.size w)
 have H : ((sat_Number.f a0_1).bind fun t148 => ((row_Text.f k l0_2).bind fun t149 => ((reply_say.f (([(⟨#[114, 111, 119, 115]⟩ : ByteArray), t148, t149] : List ByteArray))).bind fun t153 => (some t153)))) = some r := h
 clear h
 obtain ⟨t148, A2, H⟩ := bs H
 try dsimp only at H
 obtain ⟨t149, A3, H⟩ := bs H
 try dsimp only at H
 obtain ⟨y150, hy150⟩ : ∃ y_ : List ByteArray, y_ = (([(⟨#[114, 111, 119, 115]⟩ : ByteArray), t148, t149] : List ByteArray)) := ⟨_, rfl⟩
 replace H : ((reply_say.f y150).bind fun t153 => (some t153)) = some r := by first | (rw [hy150]; with_reducible exact H) | (have H2_ := (Option.bind_some _ _).symm.trans H; rw [hy150]; with_reducible exact H2_) | (have H2_ := (Option.bind_some _ _).symm.trans H; with_reducible exact H2_) | with_reducible exact H | (rw [hy150]; exact H) | exact H
 have Ny150 := Aside0.mk hy150
 clear hy150
 obtain ⟨t153, A4, H⟩ := bs H
 try dsimp only at H
 obtain rfl := Option.some.inj H
 go_enter Tryz.func18, Tryz.ntmps18
 try go_wp2_with (first | ((with_reducible refine gate_dst (N := 1) rfl ?_); refine bx (N := 1) #[.int .i64 a0_0, .int .i64 a0_1, .slice A0_2 l0_2.length c0_2] 33 ?_; intro gb147 hg w5 hbox hb; have BK147 := Aside0.mk (hbox); have GW147 := gw hg (uW HB.out); have GE147 := GW147; replace HB := cW HB hb; clear hb hbox hg))
 replace BK147 := Aside0.mk (blk_drew BK147.out)
 replace HB := Aside0.mk (below_drew1 HB.out)
 refine start_ (n := 9) (S := fun w' => w'.cell? ⟨gb147, 0, none⟩ = some (.int .i64 a0_0) ∧ w'.cell? ⟨gb147, 1, none⟩ = some (.int .i64 a0_1) ∧ w'.cell? ⟨gb147, 2, none⟩ = some (.slice A0_2 l0_2.length c0_2)) (ds := []) _ (by kernel_rfl) rfl rfl ⟨(blk_cell BK147.out 0).trans rfl, (blk_cell BK147.out 1).trans rfl, (blk_cell BK147.out 2).trans rfl⟩ (fun hHeld => ?_); refine with_tabW reply_Rows.tab1 reply_Rows.bits1 (fun HT_ HW_ => ?_)
 generalize w5.drew = w6 at BK147 HB hHeld ⊢
 refine p1 0 (some 3) ?_
 refine p1 3 (some 6) ?_
 refine t1 1 (some 4) rfl rfl hHeld (Or.inl ⟨by rfl, by rintro w' ⟨s0, s1, s2⟩; go_simp; with_reducible rfl⟩) ?_
 refine t1 4 (some 7) rfl rfl hHeld (Or.inl ⟨by rfl, by rintro w' ⟨s0, s1, s2⟩; go_simp; with_reducible rfl⟩) ?_
 refine o1 2 (some 5) rfl rfl (fun K hK => ?_)
 refine gS Tryz.func35 #[.int .i64 a0_1] ?_
 with_reducible refine (sat_Number.calls (hL := ld) a0_1 t148 _ A2.out).mono ?_
 rintro e w7 ⟨rfl, hb⟩
 refine ⟨_, rfl, ?_⟩
 replace BK147 := cB BK147 hb
 replace HB := Aside0.mk (below_step bl hb)
 (try clear hb)
 refine hK.out _ _ ⟨(blk_cell BK147.out 0).trans rfl, (blk_cell BK147.out 1).trans rfl, (blk_cell BK147.out 2).trans rfl⟩ (fun hHeld => ?_)
 clear hK K
 refine norm_ (a' := ?_) ?_ ?_
 rotate_left
 ·
  show Act.put _ (some 5) _ = _
  simp only [Act.put, List.setIfInBounds_toArray, List.set_cons_zero, List.set_cons_succ, i64_w, i32_w]
  rfl
 refine o1 5 (some 8) rfl rfl (fun K hK => ?_)
 refine gS Tryz.func38 #[.slice A0_2 l0_2.length c0_2] ?_
 with_reducible refine (row_Text.calls (hL := ld) k _ _ l0_2 t149 _ ?side1 ?side2 A3.out).mono ?_
 (case side1 => exact uC <| (Kd.C_below HR0_2.out HB.out))
 (case side2 => exact HC0_2.out)
 rintro e w8 ⟨rfl, hb⟩
 refine ⟨_, rfl, ?_⟩
 replace BK147 := cB BK147 hb
 replace HB := Aside0.mk (below_step bl hb)
 (try clear hb)
 refine hK.out _ _ ⟨(blk_cell BK147.out 0).trans rfl, (blk_cell BK147.out 1).trans rfl, (blk_cell BK147.out 2).trans rfl⟩ (fun hHeld => ?_)
 clear hK K
 refine norm_ (a' := ?_) ?_ ?_
 rotate_left
 ·
  show Act.put _ (some 8) _ = _
  simp only [Act.put, List.setIfInBounds_toArray, List.set_cons_zero, List.set_cons_succ, i64_w, i32_w]
  rfl
 refine o1 6 (some 9) rfl rfl (fun K hK => ?_)
 refine Kd.R_lit_step Kd.string _ 9 ?hg (N := 9) ?hd (xs := ([(⟨#[114, 111, 119, 115]⟩ : ByteArray), t148, t149] : List ByteArray)) (inner := [.string (⟨#[114, 111, 119, 115]⟩ : ByteArray), .string t148, .string t149]) (ok := fun _ => True) (okp := fun _ => True) ?hr ?hp (fun _ hk => hk) trivial (Below.refl _ _) (Nat.le_refl _) (by simp) ?_; (case hd => rfl); (case hg => rfl); (case hr => first | (go_simp; done) | (go_simp; rfl)); (case hp => exact (Reps.one (show Kd.M Kd.string _ _ _ (⟨#[114, 111, 119, 115]⟩ : ByteArray) [.string (⟨#[114, 111, 119, 115]⟩ : ByteArray)] from rfl) (Reps.one (show Kd.M Kd.string _ _ _ t148 [.string t148] from rfl) (Reps.one (show Kd.M Kd.string _ _ _ t149 [.string t149] from rfl) (Reps.none _ _)))))
 intro v151 w9 ho10 hb hg_ hnew_
 clear hg_ hnew_
 (first | rw [← Ny150.out] at ho10 | (simp only [Int.reduceToNat] at ho10; rw [← Ny150.out] at ho10))
 have HO152 := Aside0.mk (Kd.R_lower ho10 (below_size bl))
 replace BK147 := cB BK147 hb
 replace HB := Aside0.mk (below_step bl hb)
 clear hb ho10
 obtain ⟨Ao11, co11, eo11⟩ := Kd.R_slice HO152.out
 (first | subst eo11 | (injection eo11 with f1_ f2_ f3_; have f4_ := f1_.symm; have f5_ := f3_.symm; clear f1_ f2_ f3_; subst f4_; subst f5_))
 refine hK.out _ _ ⟨(blk_cell BK147.out 0).trans rfl, (blk_cell BK147.out 1).trans rfl, (blk_cell BK147.out 2).trans rfl⟩ (fun hHeld => ?_)
 clear hK K
 refine norm_ (a' := ?_) ?_ ?_
 rotate_left
 ·
  show Act.put _ (some 9) _ = _
  simp only [Act.put, List.setIfInBounds_toArray, List.set_cons_zero, List.set_cons_succ, i64_w, i32_w]
  rfl
 refine o1 7 (some 10) rfl rfl (fun K hK => ?_)
 refine gS Tryz.func33 #[.slice Ao11 y150.length co11] ?_
 with_reducible refine (reply_say.calls _ _ y150 t153 _ ?side1 ?side2 A4.out).mono ?_
 (case side1 => exact uC <| (Kd.R_reads' HO152.out).2.2)
 (case side2 => exact (Kd.R_reads' HO152.out).2.1)
 rintro e w12 ⟨rfl, hb⟩
 refine ⟨_, rfl, ?_⟩
 replace HO152 := cR HO152 hb
 replace BK147 := cB BK147 hb
 replace HB := Aside0.mk (below_step bl hb)
 (try clear hb)
 refine hK.out _ _ ⟨(blk_cell BK147.out 0).trans rfl, (blk_cell BK147.out 1).trans rfl, (blk_cell BK147.out 2).trans rfl⟩ (fun hHeld => ?_)
 clear hK K
 refine norm_ (a' := ?_) ?_ ?_
 rotate_left
 ·
  show Act.put _ (some 10) _ = _
  simp only [Act.put, List.setIfInBounds_toArray, List.set_cons_zero, List.set_cons_succ, i64_w, i32_w]
  rfl
 refine p1 8 (some 2) ?_
 refine done_ (done_of HT_.out (by kernel_rfl)) ?_
 try go_wp2
 go_ret
 exact ⟨re_, bl⟩
def diff_Text.l0 : Nat → List ByteArray → List (S78) → Int → Int → Option (ByteArray)
 | 0, _, _, _, _ => none
 | k + 1, x3, x9, x10, x11 => if x11 < x10 then (if 0 ≤ x11 then (if x11 < (x9.length : Int) then (if (rd_T78 x9 x11).f1 = true then ((sat_Number.f ((rd_T78 x9 x11).f0.f0)).bind fun t157 => ((word_Join.f (⟨#[124]⟩ : ByteArray) (([t157, (rd_T78 x9 x11).f0.f1] : List ByteArray))).bind fun t161 => (if 1 + t161.size ≤ 9223372036854775807 then (if x3.length < 8796093022208 then (diff_Text.l0 k (x3 ++ [(⟨#[33]⟩ : ByteArray) ++ t161]) x9 x10 (wrap64 (x11 + 1))) else (none)) else (none)))) else ((row_Text.f k (([(⟨(rd_T78 x9 x11).f0.f0, (rd_T78 x9 x11).f0.f1, (⟨(rd_T78 x9 x11).f0.f2.f0, (rd_T78 x9 x11).f0.f2.f1⟩ : S58)⟩ : S60)] : List (S60)))).bind fun t168 => (if x3.length < 8796093022208 then (diff_Text.l0 k (x3 ++ [t168]) x9 x10 (wrap64 (x11 + 1))) else (none)))) else (none)) else (none)) else ((word_Join.f (⟨#[59]⟩ : ByteArray) x3).bind fun t154 => (some t154))
def diff_Text.f (k : Nat) (l0 : List (S78)) : Option (ByteArray) := if (l0.length : Int) = 0 then (some (⟨#[45]⟩ : ByteArray)) else (diff_Text.l0 k ([] : List ByteArray) l0 (l0.length : Int) 0)
theorem diff_Text.mono_l : ∀ k, (∀ y0 y1 y2 y3, LeC (diff_Text.l0 k y0 y1 y2 y3) (diff_Text.l0 (k + 1) y0 y1 y2 y3))
 | 0 => fun _ _ _ _ => ⟨fun r h => by simp [diff_Text.l0] at h⟩
 | k + 1 => by have ih0 := diff_Text.mono_l k; exact fun _ _ _ _ => by unfold diff_Text.l0; exact lm
theorem diff_Text.mono : ∀ a0 k, LeO (diff_Text.f k a0) (diff_Text.f (k + 1) a0) := by
 intro a0 k
 have ih0 := diff_Text.mono_l k
 unfold diff_Text.f
 exact lo
instance diff_Text.mI {a0 k} : LeC (diff_Text.f k a0) (diff_Text.f (k + 1) a0) := ⟨diff_Text.mono _ _⟩
def diff_Text.T8 : Bool × List (List Nat × List Nat) := (true, [([], []), ([], []), ([1], [1]), ([2], [2]), ([3], [3]), ([], []), ([5], [5]), ([6], [6]), ([4, 7], [4, 7]), ([8, 4], [8]), ([9], [9]), ([10], [10]), ([0, 11, 9], [0, 11]), ([12, 12, 0, 1, 2, 3, 4, 5, 6, 7, 8, 9, 10, 11, 12], [0, 12])])
def diff_Text.B8 : List Nat := [0, 0, 2, 6, 14, 0, 32, 96, 254, 510, 1022, 2046, 4095, 8191]
theorem diff_Text.tab8 : rtab .any (opsOf Tryz.f40 8) = diff_Text.T8 := by kernel_rfl
theorem diff_Text.bits8 : waitsOk diff_Text.T8.2 diff_Text.B8 = true := by kernel_rfl
theorem diff_Text.calls (k : Nat) (A0 : Option Addr) (c0 : Nat) (l0 : List (S78)) (r : ByteArray) (w : World) (hr0 : Kd.C k78 w A0 l0.length l0) (hc0 : l0.length ≤ c0) (hL : LD w) (h : diff_Text.f k l0 = some r) :
 Calls Tryz.prog 40 #[.slice A0 l0.length c0] w fun e w' => e = .returned (.string r) ∧ Below w.heap.size w w' := by
 have HL0 := Aside0.mk hL
 clear hL
 have hu78 := Tryz.underlying78
 have hu60 := Tryz.underlying60
 have HR0 := Aside0.mk hr0
 have HC0 := Aside0.mk hc0
 clear hr0 hc0
 have HB := Aside0.mk (Below.refl w.heap.size w)
 have H : (if (l0.length : Int) = 0 then (some (⟨#[45]⟩ : ByteArray)) else (diff_Text.l0 k ([] : List ByteArray) l0 (l0.length : Int) 0)) = some r := h
 clear h
 by_cases c2 : (l0.length : Int) = 0
 ·
  rw [if_pos c2] at H
  have c2b0 : ((l0.length : Int) == 0) = true := beq_iff_eq.mpr c2
  have c2b1 : ((l0.length : Int) != 0) = false := bne_eq_false_iff_eq.mpr c2
  clear c2
  obtain rfl := Option.some.inj H
  go_enter Tryz.func40, Tryz.ntmps40
  go_wp2
  go_ret
  exact ⟨re_, uW HB.out⟩
 ·
  rw [if_neg c2] at H
  have c2b0 : ((l0.length : Int) == 0) = false := beq_eq_false_iff_ne.mpr c2
  have c2b1 : ((l0.length : Int) != 0) = true := bne_iff_ne.mpr c2
  have c2b2 : ¬ (l0 = []) := fun h_ => c2 (by rw [h_]; rfl)
  have H' := Aside0.mk H
  clear H
  go_enter Tryz.func40, Tryz.ntmps40
  go_wp2
  go_loopg [3, 11] k (fun kq v3 v11 w' => ∃ (x3_1 : List ByteArray) (x11_1 : Int), v11 = .int .i64 x11_1 ∧ Aside0 (diff_Text.l0 kq x3_1 l0 (l0.length : Int) x11_1 = some r) ∧ Aside0 (kq ≤ k) ∧ Aside0 (Kd.R Kd.string 9 w' w.heap.size (fun _ => True) v3 x3_1) ∧ Aside0 (Below w.heap.size w w'))
  case atStart => exact ⟨(([] : List ByteArray)), (0), rs_, H', ⟨Nat.le_refl _⟩, ⟨nl_⟩, ⟨uW HB.out⟩⟩
  case round =>
   clear H'
   try clear c2
   try clear c2b0
   try clear c2b1
   try clear c2b2
   obtain ⟨x3_1, x11_1, rfl, HA, HK1, HO_3, HB⟩ := hrel
   cases gk with
   | zero => exact absurd HA.out (by simp [diff_Text.l0])
   | succ k1 =>
    have H := HA.out
    clear HA
    simp only [diff_Text.l0] at H
    by_cases c3 : x11_1 < (l0.length : Int)
    ·
     rw [if_pos c3] at H
     have c3b0 : decide (x11_1 < (l0.length : Int)) = true := decide_eq_true c3
     clear c3
     obtain ⟨c4b0, H⟩ := gdd H
     obtain ⟨c5b0, H⟩ := gdd H
     obtain ⟨bq6, hbq6⟩ : ∃ b_ : Bool, b_ = ((rd_T78 l0 x11_1).f1) := ⟨_, rfl⟩
     replace H : (if bq6 = true then ((sat_Number.f ((rd_T78 l0 x11_1).f0.f0)).bind fun t157 => ((word_Join.f (⟨#[124]⟩ : ByteArray) (([t157, (rd_T78 l0 x11_1).f0.f1] : List ByteArray))).bind fun t161 => (if 1 + t161.size ≤ 9223372036854775807 then (if x3_1.length < 8796093022208 then (diff_Text.l0 k1 (x3_1 ++ [(⟨#[33]⟩ : ByteArray) ++ t161]) l0 (l0.length : Int) (wrap64 (x11_1 + 1))) else (none)) else (none)))) else ((row_Text.f k1 (([(⟨(rd_T78 l0 x11_1).f0.f0, (rd_T78 l0 x11_1).f0.f1, (⟨(rd_T78 l0 x11_1).f0.f2.f0, (rd_T78 l0 x11_1).f0.f2.f1⟩ : S58)⟩ : S60)] : List (S60)))).bind fun t168 => (if x3_1.length < 8796093022208 then (diff_Text.l0 k1 (x3_1 ++ [t168]) l0 (l0.length : Int) (wrap64 (x11_1 + 1))) else (none)))) = some r := by rw [← hbq6] at H; exact H
     have Nbq6 := Aside0.mk hbq6
     clear hbq6
     by_cases c7 : bq6 = true
     ·
      subst c7
      rw [if_pos rfl] at H
      obtain ⟨t157, A8, H⟩ := bs H
      try dsimp only at H
      obtain ⟨y158, hy158⟩ : ∃ y_ : List ByteArray, y_ = (([t157, (rd_T78 l0 x11_1).f0.f1] : List ByteArray)) := ⟨_, rfl⟩
      replace H : ((word_Join.f (⟨#[124]⟩ : ByteArray) y158).bind fun t161 => (if 1 + t161.size ≤ 9223372036854775807 then (if x3_1.length < 8796093022208 then (diff_Text.l0 k1 (x3_1 ++ [(⟨#[33]⟩ : ByteArray) ++ t161]) l0 (l0.length : Int) (wrap64 (x11_1 + 1))) else (none)) else (none))) = some r := by first | (rw [hy158]; with_reducible exact H) | (have H2_ := (Option.bind_some _ _).symm.trans H; rw [hy158]; with_reducible exact H2_) | (have H2_ := (Option.bind_some _ _).symm.trans H; with_reducible exact H2_) | with_reducible exact H | (rw [hy158]; exact H) | exact H
      have Ny158 := Aside0.mk hy158
      clear hy158
      obtain ⟨t161, A9, H⟩ := bs H
      try dsimp only at H
      obtain ⟨c10, H⟩ := gd H
      have c10b0 := eq_true c10
      have c10b1 : decide (1 + t161.size ≤ 9223372036854775807) = true := decide_eq_true c10
      try have c10b2 : (9223372036854775807 < 1 + t161.size) = False := eq_false (Nat.not_lt.2 c10)
      obtain ⟨c11, H⟩ := gd H
      have LMc11 := Aside0.mk c11
      clear c11
      obtain ⟨y162, hy162⟩ : ∃ y_ : List ByteArray, y_ = (x3_1 ++ [(⟨#[33]⟩ : ByteArray) ++ t161]) := ⟨_, rfl⟩
      replace H : (diff_Text.l0 k1 y162 l0 (l0.length : Int) (wrap64 (x11_1 + 1))) = some r := by first | (rw [hy162]; with_reducible exact H) | (have H2_ := (Option.bind_some _ _).symm.trans H; rw [hy162]; with_reducible exact H2_) | (have H2_ := (Option.bind_some _ _).symm.trans H; with_reducible exact H2_) | with_reducible exact H | (rw [hy162]; exact H) | exact H
      have Ny162 := Aside0.mk hy162
      clear hy162
      have H' := Aside0.mk H
      clear H
      have p155 : 0 ≤ (x11_1 : Int) := od
      have q155 : x11_1 < (l0.length : Int) := od
      obtain ⟨ad155, e155, hx155_0, hx155_1, hx155_2, hx155_3, hx155_4⟩ := at_T78 HR0.out x11_1 p155 q155
      (try rw [← Nbq6.out] at hx155_3)
      (try rw [← Nbq6.out] at hx155_4)
      cases e155
      replace hx155_0 := kc HB hx155_0
      replace hx155_1 := kc HB hx155_1
      replace hx155_2 := kc HB hx155_2
      replace hx155_3 := kc HB hx155_3
      replace hx155_4 := kc HB hx155_4
      replace p155 := eq_true p155
      replace q155 := eq_true q155
      try go_wp2_with (first | ((with_reducible refine gate_dst (N := 5) rfl ?_); refine bx (N := 5) #[.int .i64 0, .string (⟨#[]⟩ : ByteArray), .int .i64 0, .bool false, .bool false] 78 ?_; intro gb156 hg w12 hbox hb; replace HO_3 := cR HO_3 hb; have BK156 := Aside0.mk (hbox); have GW156 := gw hg (uW HB.out); have GE156 := GW156; replace HB := cW HB hb; clear hb hbox hg; obtain ⟨hcz13_0, hcz13_1, hcz13_2, hcz13_3, hcz13_4, hfz13_0, hfz13_1, hfz13_2, hfz13_3, hfz13_4⟩ := z5 BK156) | ((with_reducible refine gate_store (t := 78) (p := 5) rfl ?_); refine store_event (t := 78) (p := 5) (v := ?vo_w14) (w1 := (((((w12.setCell ⟨gb156, 0, none⟩ (.int .i64 ((rd_T78 l0 x11_1).f0.f0))).setCell ⟨gb156, 1, none⟩ (.string ((rd_T78 l0 x11_1).f0.f1))).setCell ⟨gb156, 2, none⟩ (.int .i64 ((rd_T78 l0 x11_1).f0.f2.f0))).setCell ⟨gb156, 3, none⟩ (.bool ((rd_T78 l0 x11_1).f0.f2.f1))).setCell ⟨gb156, 4, none⟩ (.bool true))) ?hg ?ho ?hn ?hr ?_; (case ho => rfl); (case hg => rfl); (case hn => rfl); (case hr => first | (go_simp; done) | (go_simp; rfl)); intro w14 hw; replace HO_3 := fgR (ok' := fun _ => True) hw HO_3 BK156 fun _ _ => trivial; replace HB : Aside0 (Below w.heap.size w w14) := fgW hw bl; replace BK156 := fgB hw BK156; clear hw; obtain ⟨hcz15_0, hcz15_1, hcz15_2, hcz15_3, hcz15_4, hfz15_0, hfz15_1, hfz15_2, hfz15_3, hfz15_4⟩ := z5 BK156))
      replace HO_3 := Aside0.mk (Kd.R_drew HO_3.out)
      replace BK156 := Aside0.mk (blk_drew BK156.out)
      replace HB := Aside0.mk (below_drew1 HB.out)
      refine start_ (n := 14) (S := fun w' => w'.cell? ⟨gb156, 0, none⟩ = some (.int .i64 ((rd_T78 l0 x11_1).f0.f0)) ∧ w'.cell? ⟨gb156, 1, none⟩ = some (.string ((rd_T78 l0 x11_1).f0.f1)) ∧ w'.cell? ⟨gb156, 2, none⟩ = some (.int .i64 ((rd_T78 l0 x11_1).f0.f2.f0)) ∧ w'.cell? ⟨gb156, 3, none⟩ = some (.bool ((rd_T78 l0 x11_1).f0.f2.f1)) ∧ w'.cell? ⟨gb156, 4, none⟩ = some (.bool true)) (ds := []) _ (by kernel_rfl) rfl rfl ⟨(blk_cell BK156.out 0).trans rfl, (blk_cell BK156.out 1).trans rfl, (blk_cell BK156.out 2).trans rfl, (blk_cell BK156.out 3).trans rfl, (blk_cell BK156.out 4).trans rfl⟩ (fun hHeld => ?_); refine with_tabW diff_Text.tab8 diff_Text.bits8 (fun HT_ HW_ => ?_)
      generalize w14.drew = w16 at HO_3 BK156 HB hHeld ⊢
      refine p1 0 (some 17) ?_
      refine p1 1 (some 18) ?_
      refine p1 2 (some 19) ?_
      refine p1 5 (some 22) ?_
      refine p1 6 (some 23) ?_
      refine t1 3 (some 20) rfl rfl hHeld (Or.inl ⟨by rfl, by rintro w' ⟨s0, s1, s2, s3, s4⟩; go_simp; with_reducible rfl⟩) ?_
      refine t1 7 (some 24) rfl rfl hHeld (Or.inl ⟨by rfl, by rintro w' ⟨s0, s1, s2, s3, s4⟩; go_simp; with_reducible rfl⟩) ?_
      refine o1 4 (some 21) rfl rfl (fun K hK => ?_)
      refine gS Tryz.func35 #[.int .i64 ((rd_T78 l0 x11_1).f0.f0)] ?_
      with_reducible refine (sat_Number.calls (hL := ld) ((rd_T78 l0 x11_1).f0.f0) t157 _ A8.out).mono ?_
      rintro e w17 ⟨rfl, hb⟩
      refine ⟨_, rfl, ?_⟩
      replace HO_3 := cR HO_3 hb
      replace BK156 := cB BK156 hb
      replace HB := Aside0.mk (below_step bl hb)
      (try clear hb)
      refine hK.out _ _ ⟨(blk_cell BK156.out 0).trans rfl, (blk_cell BK156.out 1).trans rfl, (blk_cell BK156.out 2).trans rfl, (blk_cell BK156.out 3).trans rfl, (blk_cell BK156.out 4).trans rfl⟩ (fun hHeld => ?_)
      clear hK K
      refine norm_ (a' := ?_) ?_ ?_
      rotate_left
      ·
       show Act.put _ (some 21) _ = _
       simp only [Act.put, List.setIfInBounds_toArray, List.set_cons_zero, List.set_cons_succ, i64_w, i32_w]
       rfl
      refine o1 8 (some 25) rfl rfl (fun K hK => ?_)
      refine Kd.R_lit_step Kd.string _ 9 ?hg (N := 25) ?hd (xs := ([t157, (rd_T78 l0 x11_1).f0.f1] : List ByteArray)) (inner := [.string t157, .string ((rd_T78 l0 x11_1).f0.f1)]) (ok := fun _ => True) (okp := fun _ => True) ?hr ?hp (fun _ hk => hk) trivial (Below.refl _ _) (Nat.le_refl _) (by simp) ?_; (case hd => rfl); (case hg => rfl); (case hr => first | (go_simp; done) | (go_simp; rfl)); (case hp => exact (Reps.one (show Kd.M Kd.string _ _ _ t157 [.string t157] from rfl) (Reps.one (show Kd.M Kd.string _ _ _ ((rd_T78 l0 x11_1).f0.f1) [.string ((rd_T78 l0 x11_1).f0.f1)] from rfl) (Reps.none _ _))))
      intro v159 w18 ho19 hb hg_ hnew_
      clear hg_ hnew_
      (first | rw [← Ny158.out] at ho19 | (simp only [Int.reduceToNat] at ho19; rw [← Ny158.out] at ho19))
      have HO160 := Aside0.mk (Kd.R_lower (Kd.R_new' ho19 (Kd.R_lt (uR HO_3.out))) (below_size bl))
      replace HO_3 := Aside0.mk (Kd.R_elder' (uR HO_3.out) (Kd.R_base ho19) hb)
      replace BK156 := cB BK156 hb
      replace HB := Aside0.mk (below_step bl hb)
      clear hb ho19
      obtain ⟨Ao20, co20, eo20⟩ := Kd.R_slice HO160.out
      (first | subst eo20 | (injection eo20 with f1_ f2_ f3_; have f4_ := f1_.symm; have f5_ := f3_.symm; clear f1_ f2_ f3_; subst f4_; subst f5_))
      refine hK.out _ _ ⟨(blk_cell BK156.out 0).trans rfl, (blk_cell BK156.out 1).trans rfl, (blk_cell BK156.out 2).trans rfl, (blk_cell BK156.out 3).trans rfl, (blk_cell BK156.out 4).trans rfl⟩ (fun hHeld => ?_)
      clear hK K
      refine norm_ (a' := ?_) ?_ ?_
      rotate_left
      ·
       show Act.put _ (some 25) _ = _
       simp only [Act.put, List.setIfInBounds_toArray, List.set_cons_zero, List.set_cons_succ, i64_w, i32_w]
       rfl
      refine o1 9 (some 26) rfl rfl (fun K hK => ?_)
      refine gS Tryz.func61 #[.string (⟨#[124]⟩ : ByteArray), .slice Ao20 y158.length co20] ?_
      with_reducible refine (word_Join.calls (⟨#[124]⟩ : ByteArray) _ _ y158 t161 _ ?side1 ?side2 A9.out).mono ?_
      (case side1 => exact uC <| (Kd.R_reads' HO160.out).2.2)
      (case side2 => exact (Kd.R_reads' HO160.out).2.1)
      rintro e w21 ⟨rfl, hb⟩
      refine ⟨_, rfl, ?_⟩
      replace HO_3 := cR HO_3 hb
      replace HO160 := cR HO160 hb
      replace BK156 := cB BK156 hb
      replace HB := Aside0.mk (below_step bl hb)
      (try clear hb)
      refine hK.out _ _ ⟨(blk_cell BK156.out 0).trans rfl, (blk_cell BK156.out 1).trans rfl, (blk_cell BK156.out 2).trans rfl, (blk_cell BK156.out 3).trans rfl, (blk_cell BK156.out 4).trans rfl⟩ (fun hHeld => ?_)
      clear hK K
      refine norm_ (a' := ?_) ?_ ?_
      rotate_left
      ·
       show Act.put _ (some 26) _ = _
       simp only [Act.put, List.setIfInBounds_toArray, List.set_cons_zero, List.set_cons_succ, i64_w, i32_w]
       rfl
      refine p1 10 (some 27) ?_
      refine o1 11 (some 28) rfl rfl (fun K hK => ?_)
      refine value_ (w1 := ?_) (v := ?_) (by rfl) rfl ?_ ?_
      rotate_left 2
      ·
       go_simp
       constructor
       ·
        rfl
       ·
        rfl
      refine hK.out _ _ ⟨(blk_cell (blk_alloc BK156.out _) 0).trans rfl, (blk_cell (blk_alloc BK156.out _) 1).trans rfl, (blk_cell (blk_alloc BK156.out _) 2).trans rfl, (blk_cell (blk_alloc BK156.out _) 3).trans rfl, (blk_cell (blk_alloc BK156.out _) 4).trans rfl⟩ (fun hHeld => ?_)
      clear hK K
      refine norm_ (a' := ?_) ?_ ?_
      rotate_left
      ·
       show Act.put _ (some 28) _ = _
       simp only [Act.put, List.setIfInBounds_toArray, List.set_cons_zero, List.set_cons_succ, i64_w, i32_w]
       rfl
      refine o1 12 (some 29) rfl rfl (fun K hK => ?_)
      refine Kd.R_append_step Kd.string (w0 := w) w.heap.size (by rfl) (.tmp 17) (.tmp 28) 56 9 (.string ⟨#[]⟩) 16 rfl Tryz.underlying56 info9 rfl (by decide) (by omega) u3 x3_1 ((⟨#[33]⟩ : ByteArray) ++ t161) [.string ((⟨#[33]⟩ : ByteArray) ++ t161)] (fun k_ => some k_ ≠ (.slice Ao20 y158.length co20 : Value).ownBlock) (fun _ => False) rfl rfl ?aP (fun _ hk => hk.elim) ?aF ?aO ?aB ?aS ?aL ?_
      (case aP => exact rfl)
      (case aB => exact bl)
      (case aF => exact (fun k_ hk => Kd.fresh' (Kd.R_lt (uR HO160.out)) k_ hk))
      (case aO => exact (by exact uR <| Kd.R_mono HO_3.out (fun _ hk => hk.2)))
      (case aS => exact (below_size bl))
      (case aL => have := LMc11.out; omega)
      intro v163 w22 ho hb hg hat
      rw [← Ny162.out] at ho
      replace BK156 := Aside0.mk (blk_grown (g := gb156) (o := .cells #[.int .i64 ((rd_T78 l0 x11_1).f0.f0), .string ((rd_T78 l0 x11_1).f0.f1), .int .i64 ((rd_T78 l0 x11_1).f0.f2.f0), .bool ((rd_T78 l0 x11_1).f0.f2.f1), .bool true] 78 (0, 0)) (uB BK156.out) hg (Kd.R_ne HO_3.out BK156.out (by decide)))
      replace HO160 := Aside0.mk (Kd.R_after (ok := (fun _ => True)) (uR HO160.out) hg hat)
      replace HB := Aside0.mk (hb)
      have HO164 := Aside0.mk (ho)
      clear HO_3
      clear ho hb hg hat
      refine hK.out _ _ ⟨(blk_cell BK156.out 0).trans rfl, (blk_cell BK156.out 1).trans rfl, (blk_cell BK156.out 2).trans rfl, (blk_cell BK156.out 3).trans rfl, (blk_cell BK156.out 4).trans rfl⟩ (fun hHeld => ?_)
      clear hK K
      refine norm_ (a' := ?_) ?_ ?_
      rotate_left
      ·
       show Act.put _ (some 29) _ = _
       simp only [Act.put, List.setIfInBounds_toArray, List.set_cons_zero, List.set_cons_succ, i64_w, i32_w]
       rfl
      refine p1 13 (some 3) ?_
      refine done_ (done_of HT_.out (by kernel_rfl)) ?_
      try go_wp2
      go_roundg k1
      case measure => have := HK1.out; omega
      case rel => exact ⟨(y162), (wrap64 (x11_1 + 1)), rs_, (by first | exact H' | (rw [← Nbq6.out]; exact H')), ⟨by have := HK1.out; omega⟩, ⟨by exact uR <| Kd.R_mono HO164.out (fun _ hk => trivial)⟩, ⟨bl⟩⟩
     ·
      replace c7 := Bool.eq_false_iff.mpr c7
      subst c7
      rw [if_neg (show ¬ (false = true) by decide)] at H
      obtain ⟨y165, hy165⟩ : ∃ y_ : List (S60), y_ = (([(⟨(rd_T78 l0 x11_1).f0.f0, (rd_T78 l0 x11_1).f0.f1, (⟨(rd_T78 l0 x11_1).f0.f2.f0, (rd_T78 l0 x11_1).f0.f2.f1⟩ : S58)⟩ : S60)] : List (S60))) := ⟨_, rfl⟩
      replace H : ((row_Text.f k1 y165).bind fun t168 => (if x3_1.length < 8796093022208 then (diff_Text.l0 k1 (x3_1 ++ [t168]) l0 (l0.length : Int) (wrap64 (x11_1 + 1))) else (none))) = some r := by first | (rw [hy165]; with_reducible exact H) | (have H2_ := (Option.bind_some _ _).symm.trans H; rw [hy165]; with_reducible exact H2_) | (have H2_ := (Option.bind_some _ _).symm.trans H; with_reducible exact H2_) | with_reducible exact H | (rw [hy165]; exact H) | exact H
      have Ny165 := Aside0.mk hy165
      clear hy165
      obtain ⟨t168, A23, H⟩ := bs H
      try dsimp only at H
      obtain ⟨c24, H⟩ := gd H
      have LMc24 := Aside0.mk c24
      clear c24
      obtain ⟨y169, hy169⟩ : ∃ y_ : List ByteArray, y_ = (x3_1 ++ [t168]) := ⟨_, rfl⟩
      replace H : (diff_Text.l0 k1 y169 l0 (l0.length : Int) (wrap64 (x11_1 + 1))) = some r := by first | (rw [hy169]; with_reducible exact H) | (have H2_ := (Option.bind_some _ _).symm.trans H; rw [hy169]; with_reducible exact H2_) | (have H2_ := (Option.bind_some _ _).symm.trans H; with_reducible exact H2_) | with_reducible exact H | (rw [hy169]; exact H) | exact H
      have Ny169 := Aside0.mk hy169
      clear hy169
      have H' := Aside0.mk H
      clear H
      have p155 : 0 ≤ (x11_1 : Int) := od
      have q155 : x11_1 < (l0.length : Int) := od
      obtain ⟨ad155, e155, hx155_0, hx155_1, hx155_2, hx155_3, hx155_4⟩ := at_T78 HR0.out x11_1 p155 q155
      (try rw [← Nbq6.out] at hx155_3)
      (try rw [← Nbq6.out] at hx155_4)
      cases e155
      replace hx155_0 := kc HB hx155_0
      replace hx155_1 := kc HB hx155_1
      replace hx155_2 := kc HB hx155_2
      replace hx155_3 := kc HB hx155_3
      replace hx155_4 := kc HB hx155_4
      replace p155 := eq_true p155
      replace q155 := eq_true q155
      go_wp2_with (first | ((with_reducible refine gate_dst (N := 5) rfl ?_); refine bx (N := 5) #[.int .i64 0, .string (⟨#[]⟩ : ByteArray), .int .i64 0, .bool false, .bool false] 78 ?_; intro gb156 hg w25 hbox hb; replace HO_3 := cR HO_3 hb; have BK156 := Aside0.mk (hbox); have GW156 := gw hg (uW HB.out); have GE156 := GW156; replace HB := cW HB hb; clear hb hbox hg; obtain ⟨hcz26_0, hcz26_1, hcz26_2, hcz26_3, hcz26_4, hfz26_0, hfz26_1, hfz26_2, hfz26_3, hfz26_4⟩ := z5 BK156) | ((with_reducible refine gate_store (t := 78) (p := 5) rfl ?_); refine store_event (t := 78) (p := 5) (v := ?vo_w27) (w1 := (((((w25.setCell ⟨gb156, 0, none⟩ (.int .i64 ((rd_T78 l0 x11_1).f0.f0))).setCell ⟨gb156, 1, none⟩ (.string ((rd_T78 l0 x11_1).f0.f1))).setCell ⟨gb156, 2, none⟩ (.int .i64 ((rd_T78 l0 x11_1).f0.f2.f0))).setCell ⟨gb156, 3, none⟩ (.bool ((rd_T78 l0 x11_1).f0.f2.f1))).setCell ⟨gb156, 4, none⟩ (.bool false))) ?hg ?ho ?hn ?hr ?_; (case ho => rfl); (case hg => rfl); (case hn => rfl); (case hr => first | (go_simp; done) | (go_simp; rfl)); intro w27 hw; replace HO_3 := fgR (ok' := fun _ => True) hw HO_3 BK156 fun _ _ => trivial; replace HB : Aside0 (Below w.heap.size w w27) := fgW hw bl; replace BK156 := fgB hw BK156; clear hw; obtain ⟨hcz28_0, hcz28_1, hcz28_2, hcz28_3, hcz28_4, hfz28_0, hfz28_1, hfz28_2, hfz28_3, hfz28_4⟩ := z5 BK156) | ((with_reducible refine gate_dst (N := 33) rfl ?_); refine Kd.R_lit k60 _ 60 ?hg (N := 33) ?hd (xs := ([(⟨(rd_T78 l0 x11_1).f0.f0, (rd_T78 l0 x11_1).f0.f1, (⟨(rd_T78 l0 x11_1).f0.f2.f0, (rd_T78 l0 x11_1).f0.f2.f1⟩ : S58)⟩ : S60)] : List (S60))) (inner := [.int .i64 ((rd_T78 l0 x11_1).f0.f0), .string ((rd_T78 l0 x11_1).f0.f1), .int .i64 ((rd_T78 l0 x11_1).f0.f2.f0), .bool ((rd_T78 l0 x11_1).f0.f2.f1)]) (ok := fun _ => True) (okp := fun _ => True) ?hr ?hp (fun _ hk => hk) trivial (Below.refl _ _) (Nat.le_refl _) (by simp) ?_; (case hd => rfl); (case hg => rfl); (case hr => first | (go_simp; done) | (go_simp; rfl)); (case hp => exact (Reps.c4 (show Kd.M k60 _ _ _ (⟨(rd_T78 l0 x11_1).f0.f0, (rd_T78 l0 x11_1).f0.f1, (⟨(rd_T78 l0 x11_1).f0.f2.f0, (rd_T78 l0 x11_1).f0.f2.f1⟩ : S58)⟩ : S60) [.int .i64 ((rd_T78 l0 x11_1).f0.f0), .string ((rd_T78 l0 x11_1).f0.f1), .int .i64 ((rd_T78 l0 x11_1).f0.f2.f0), .bool ((rd_T78 l0 x11_1).f0.f2.f1)] from (k60_mkM _ _ _ (⟨(rd_T78 l0 x11_1).f0.f0, (rd_T78 l0 x11_1).f0.f1, (⟨(rd_T78 l0 x11_1).f0.f2.f0, (rd_T78 l0 x11_1).f0.f2.f1⟩ : S58)⟩ : S60) )) (Reps.none _ _))); intro v166 w29 ho30 hb hg_ hnew_; clear hg_ hnew_; (first | rw [← Ny165.out] at ho30 | (simp only [Int.reduceToNat] at ho30; rw [← Ny165.out] at ho30)); replace HO_3 := cR HO_3 hb; have HO167 := Aside0.mk (Kd.R_lower ho30 (below_size bl)); replace BK156 := cB BK156 hb; replace HB := Aside0.mk (below_step bl hb); clear hb ho30; obtain ⟨Ao31, co31, eo31⟩ := Kd.R_slice HO167.out; subst eo31) | (refine gL (some 34) rfl Tryz.func38 #[.slice Ao31 y165.length co31] ?_; (with_reducible refine (row_Text.calls (hL := ld) k1 _ _ y165 t168 _ ?side1 ?side2 A23.out).mono ?_); (case side1 => exact uC <| (Kd.R_reads' HO167.out).2.2); (case side2 => exact (Kd.R_reads' HO167.out).2.1); rintro e w32 ⟨rfl, hb⟩; refine ⟨_, rfl, ?_⟩; replace HO_3 := cR HO_3 hb; replace HO167 := cR HO167 hb; replace BK156 := cB BK156 hb; replace HB := Aside0.mk (below_step bl hb); (try clear hb)) | ((with_reducible refine gate_builtin (b := .append) (xs := #[.tmp 30, .tmp 35]) rfl ?_); at_builtin; refine Kd.R_append Kd.string (w0 := w) w.heap.size rfl (.tmp 30) (.tmp 35) 56 9 (.string ⟨#[]⟩) 16 rfl Tryz.underlying56 info9 rfl (by decide) (by omega) u3 x3_1 t168 [.string t168] (fun _ => True) (fun _ => False) rfl rfl ?aP (fun _ hk => hk.elim) ?aF ?aO ?aB ?aS ?aL ?_; (case aP => exact rfl); (case aB => exact bl); (case aF => exact (fun _ _ => trivial)); (case aO => exact (uR HO_3.out)); (case aS => exact (below_size bl)); (case aL => have := LMc24.out; omega); intro v170 w33 ho hb hg hat; rw [← Ny169.out] at ho; replace BK156 := Aside0.mk (blk_grown (g := gb156) (o := .cells #[.int .i64 ((rd_T78 l0 x11_1).f0.f0), .string ((rd_T78 l0 x11_1).f0.f1), .int .i64 ((rd_T78 l0 x11_1).f0.f2.f0), .bool ((rd_T78 l0 x11_1).f0.f2.f1), .bool false] 78 (0, 0)) (uB BK156.out) hg (Kd.R_ne HO_3.out BK156.out (by decide))); replace HO167 := Aside0.mk (Kd.R_over' (uR HO167.out) (Kd.R_typed (uR HO_3.out)) (by decide) hg); replace HB := Aside0.mk (hb); have HO171 := Aside0.mk (ho); clear HO_3; clear ho hb hg hat))
      go_roundg k1
      case measure => have := HK1.out; omega
      case rel => exact ⟨(y169), (wrap64 (x11_1 + 1)), rs_, (by first | exact H' | (rw [← Nbq6.out]; exact H')), ⟨by have := HK1.out; omega⟩, ⟨uR HO171.out⟩, ⟨bl⟩⟩
    ·
     rw [if_neg c3] at H
     have c3b0 : decide (x11_1 < (l0.length : Int)) = false := decide_eq_false c3
     clear c3
     obtain ⟨t154, A34, H⟩ := bs H
     try dsimp only at H
     obtain rfl := Option.some.inj H
     obtain ⟨Ao35, co35, eo35⟩ := Kd.R_slice HO_3.out
     subst eo35
     go_wp2_with (first | (refine gL (some 39) rfl Tryz.func61 #[.string (⟨#[59]⟩ : ByteArray), .slice Ao35 x3_1.length co35] ?_; (with_reducible refine (word_Join.calls (⟨#[59]⟩ : ByteArray) _ _ x3_1 t154 _ ?side1 ?side2 A34.out).mono ?_); (case side1 => exact uC <| (Kd.R_reads' HO_3.out).2.2); (case side2 => exact (Kd.R_reads' HO_3.out).2.1); rintro e w36 ⟨rfl, hb⟩; refine ⟨_, rfl, ?_⟩; replace HO_3 := cR HO_3 hb; replace HB := cW HB hb; (try clear hb)))
     go_ret
     exact ⟨re_, uW HB.out⟩
def reply_kinds.f  : Option (List ByteArray) := some (([(⟨#[105, 109, 97, 103, 101]⟩ : ByteArray), (⟨#[100, 105, 102, 102]⟩ : ByteArray), (⟨#[114, 101, 115, 121, 110, 99]⟩ : ByteArray)] : List ByteArray))
theorem reply_kinds.calls  (r : List ByteArray) (w : World) (h : reply_kinds.f  = some r) :
 Calls Tryz.prog 41 #[] w fun e w' => ∃ v0_ : Value, e = .returned (v0_) ∧ Kd.R Kd.string 9 w' w.heap.size (fun _ => True) v0_ r ∧ Below w.heap.size w w' := by
 have HB := Aside0.mk (Below.refl w.heap.size w)
 have H : (some (([(⟨#[105, 109, 97, 103, 101]⟩ : ByteArray), (⟨#[100, 105, 102, 102]⟩ : ByteArray), (⟨#[114, 101, 115, 121, 110, 99]⟩ : ByteArray)] : List ByteArray))) = some r := h
 clear h
 obtain ⟨y172, hy172⟩ : ∃ y_ : List ByteArray, y_ = (([(⟨#[105, 109, 97, 103, 101]⟩ : ByteArray), (⟨#[100, 105, 102, 102]⟩ : ByteArray), (⟨#[114, 101, 115, 121, 110, 99]⟩ : ByteArray)] : List ByteArray)) := ⟨_, rfl⟩
 replace H : (some y172) = some r := by first | (rw [hy172]; with_reducible exact H) | (have H2_ := (Option.bind_some _ _).symm.trans H; rw [hy172]; with_reducible exact H2_) | (have H2_ := (Option.bind_some _ _).symm.trans H; with_reducible exact H2_) | with_reducible exact H | (rw [hy172]; exact H) | exact H
 have Ny172 := Aside0.mk hy172
 clear hy172
 obtain rfl := Option.some.inj H
 go_enter Tryz.func41, Tryz.ntmps41
 go_wp2_with (first | ((with_reducible refine gate_dst (N := 1) rfl ?_); refine Kd.R_lit Kd.string _ 9 ?hg (N := 1) ?hd (xs := ([(⟨#[105, 109, 97, 103, 101]⟩ : ByteArray), (⟨#[100, 105, 102, 102]⟩ : ByteArray), (⟨#[114, 101, 115, 121, 110, 99]⟩ : ByteArray)] : List ByteArray)) (inner := [.string (⟨#[105, 109, 97, 103, 101]⟩ : ByteArray), .string (⟨#[100, 105, 102, 102]⟩ : ByteArray), .string (⟨#[114, 101, 115, 121, 110, 99]⟩ : ByteArray)]) (ok := fun _ => True) (okp := fun _ => True) ?hr ?hp (fun _ hk => hk) trivial (Below.refl _ _) (Nat.le_refl _) (by simp) ?_; (case hd => rfl); (case hg => rfl); (case hr => first | (go_simp; done) | (go_simp; rfl)); (case hp => exact (Reps.one (show Kd.M Kd.string _ _ _ (⟨#[105, 109, 97, 103, 101]⟩ : ByteArray) [.string (⟨#[105, 109, 97, 103, 101]⟩ : ByteArray)] from rfl) (Reps.one (show Kd.M Kd.string _ _ _ (⟨#[100, 105, 102, 102]⟩ : ByteArray) [.string (⟨#[100, 105, 102, 102]⟩ : ByteArray)] from rfl) (Reps.one (show Kd.M Kd.string _ _ _ (⟨#[114, 101, 115, 121, 110, 99]⟩ : ByteArray) [.string (⟨#[114, 101, 115, 121, 110, 99]⟩ : ByteArray)] from rfl) (Reps.none _ _))))); intro v173 w1 ho2 hb hg_ hnew_; clear hg_ hnew_; (first | rw [← Ny172.out] at ho2 | (simp only [Int.reduceToNat] at ho2; rw [← Ny172.out] at ho2)); have HO174 := Aside0.mk (Kd.R_lower ho2 (below_size (uW HB.out))); replace HB := cW HB hb; clear hb ho2))
 go_ret
 exact ⟨_, re_, uR HO174.out, uW HB.out⟩
mutual
def reply_Message.j0 : Nat → Bool → Int → Int → Int → List (S60) → List (S78) → Option (ByteArray)
 | 0, _, _, _, _, _, _ => none
 | k + 1, x11, x176000, x176001, x176002, x176003, x176004 => if x11 = true then (some (⟨#[]⟩ : ByteArray)) else ((row_Text.f k x176003).bind fun t176 => (if x176000 = 2 then ((diff_Text.f k x176004).bind fun t177 => (reply_Message.j1 k t177 x176000 x176001 x176002 x176003 x176004)) else (reply_Message.j1 k t176 x176000 x176001 x176002 x176003 x176004)))
def reply_Message.j1 : Nat → ByteArray → Int → Int → Int → List (S60) → List (S78) → Option (ByteArray)
 | 0, _, _, _, _, _, _ => none
 | k + 1, x3, x176000, x176001, x176002, x176003, x176004 => (reply_kinds.f).bind fun t178 => (if 0 ≤ (wrap64 (x176000 - 1)) then (if (wrap64 (x176000 - 1)) < (t178.length : Int) then ((sat_Number.f x176001).bind fun t182 => ((sat_Number.f x176002).bind fun t183 => ((reply_say.f (([rdOf ByteArray.empty t178 (wrap64 (x176000 - 1)), t182, t183, x3] : List ByteArray))).bind fun t187 => (some t187)))) else (none)) else (none))
end
def reply_Message.f (k : Nat) (a0_0 : Int) (a0_1 : Int) (a0_2 : Int) (l0_3 : List (S60)) (l0_4 : List (S78)) : Option (ByteArray) := if a0_0 < 1 then (reply_Message.j0 k true a0_0 a0_1 a0_2 l0_3 l0_4) else (reply_Message.j0 k (decide (a0_0 > 3)) a0_0 a0_1 a0_2 l0_3 l0_4)
theorem reply_Message.mono_l : ∀ k, (∀ y0 y1 y2 y3 y4 y5, LeC (reply_Message.j0 k y0 y1 y2 y3 y4 y5) (reply_Message.j0 (k + 1) y0 y1 y2 y3 y4 y5)) ∧ (∀ y0 y1 y2 y3 y4 y5, LeC (reply_Message.j1 k y0 y1 y2 y3 y4 y5) (reply_Message.j1 (k + 1) y0 y1 y2 y3 y4 y5))
 | 0 => ⟨fun _ _ _ _ _ _ => ⟨fun r h => by simp [reply_Message.j0] at h⟩, fun _ _ _ _ _ _ => ⟨fun r h => by simp [reply_Message.j1] at h⟩⟩
 | k + 1 => by obtain ⟨ih0, ih1⟩ := reply_Message.mono_l k; exact ⟨fun _ _ _ _ _ _ => by unfold reply_Message.j0; exact lm, fun _ _ _ _ _ _ => by unfold reply_Message.j1; exact lm⟩
theorem reply_Message.mono : ∀ a0 a1 a2 a3 a4 k, LeO (reply_Message.f k a0 a1 a2 a3 a4) (reply_Message.f (k + 1) a0 a1 a2 a3 a4) := by
 intro a0 a1 a2 a3 a4 k
 obtain ⟨ih0, ih1⟩ := reply_Message.mono_l k
 unfold reply_Message.f
 exact lo
instance reply_Message.mI {a0 a1 a2 a3 a4 k} : LeC (reply_Message.f k a0 a1 a2 a3 a4) (reply_Message.f (k + 1) a0 a1 a2 a3 a4) := ⟨reply_Message.mono _ _ _ _ _ _⟩
def reply_Message.T6 : Bool × List (List Nat × List Nat) := (true, [([], []), ([], []), ([1], [1]), ([2], [2]), ([0, 3], [0, 3]), ([4], [4]), ([], []), ([6], [6]), ([7, 0], [7]), ([], []), ([9], [9]), ([10, 8], [10]), ([], []), ([5, 8, 11, 12], [5, 8, 11, 12]), ([13, 11], [13]), ([14, 14, 0, 1, 2, 3, 4, 5, 6, 7, 8, 9, 10, 11, 12, 13, 14], [14])])
def reply_Message.B6 : List Nat := [0, 0, 2, 6, 15, 31, 0, 64, 193, 0, 512, 1985, 0, 8191, 16383, 32767]
theorem reply_Message.tab6 : rtab .any (opsOf Tryz.f20 6) = reply_Message.T6 := by kernel_rfl
theorem reply_Message.bits6 : waitsOk reply_Message.T6.2 reply_Message.B6 = true := by kernel_rfl
theorem reply_Message.grow {P : Program} {md : Region.Mode} {ops : Array Oper} {Q : Exit → Act → World → Prop} {S S' : World → Prop} (hSS : ∀ w, S' w → S w) : ∀ (fuel : Nat) (l : Array Bool) (a : Act) (w : World), S' w → wpAnyLast P md ops Q S' [] fuel l a w → wpAnyLast P md ops Q S [] fuel l a w
 | 0, _, _, _, _, h => h
 | n + 1, _, _, _, hS, h => ⟨h.1, fun i hi => wpOp_mono (fun a' w' h3 => ⟨fun _ _ => hSS _ (h3.1 (by simp) hS), reply_Message.grow hSS n _ a' w' (h3.1 (by simp) hS) h3.2⟩) (h.2 i hi)⟩
theorem reply_Message.calls (k : Nat) (a0_0 : Int) (a0_1 : Int) (a0_2 : Int) (A0_3 : Option Addr) (c0_3 : Nat) (l0_3 : List (S60)) (A0_4 : Option Addr) (c0_4 : Nat) (l0_4 : List (S78)) (r : ByteArray) (w : World) (hr0_3 : Kd.C k60 w A0_3 l0_3.length l0_3) (hc0_3 : l0_3.length ≤ c0_3) (hr0_4 : Kd.C k78 w A0_4 l0_4.length l0_4) (hc0_4 : l0_4.length ≤ c0_4) (hL : LD w) (h : reply_Message.f k a0_0 a0_1 a0_2 l0_3 l0_4 = some r) :
 Calls Tryz.prog 20 #[.agg #[.int .i64 a0_0, .int .i64 a0_1, .int .i64 a0_2, .slice A0_3 l0_3.length c0_3, .slice A0_4 l0_4.length c0_4]] w fun e w' => e = .returned (.string r) ∧ Below w.heap.size w w' := by
 have HL0 := Aside0.mk hL
 clear hL
 have hu36 := Tryz.underlying36
 have HR0_3 := Aside0.mk hr0_3
 have HC0_3 := Aside0.mk hc0_3
 clear hr0_3 hc0_3
 have HR0_4 := Aside0.mk hr0_4
 have HC0_4 := Aside0.mk hc0_4
 clear hr0_4 hc0_4
 have HB := Aside0.mk (Below.refl w.heap.size w)
 have H : (if a0_0 < 1 then (reply_Message.j0 k true a0_0 a0_1 a0_2 l0_3 l0_4) else (reply_Message.j0 k (decide (a0_0 > 3)) a0_0 a0_1 a0_2 l0_3 l0_4)) = some r := h
 clear h
 have HC2 := Aside0.mk H
 clear H
 go_enter Tryz.func20, Tryz.ntmps20
 go_upto_region 1 with (first | ((with_reducible refine gate_dst (N := 1) rfl ?_); refine bx (N := 1) #[.int .i64 a0_0, .int .i64 a0_1, .int .i64 a0_2, .slice A0_3 l0_3.length c0_3, .slice A0_4 l0_4.length c0_4] 36 ?_; intro gb175 hg w3 hbox hb; have BK175 := Aside0.mk (hbox); have GW175 := gw hg (uW HB.out); have GE175 := GW175; replace HB := cW HB hb; clear hb hbox hg))
 (try simp only [Act.put, List.setIfInBounds_toArray, List.set_cons_zero, List.set_cons_succ])
 go_cut [11] (fun v11 wc => ∃ (kq : Nat) (x11_1 : Bool), v11 = .bool x11_1 ∧ Aside0 (reply_Message.j0 kq x11_1 a0_0 a0_1 a0_2 l0_3 l0_4 = some r) ∧ Aside0 (kq ≤ k) ∧ Aside0 (wc.heap[gb175]? = some (.cells #[.int .i64 a0_0, .int .i64 a0_1, .int .i64 a0_2, (.slice A0_3 l0_3.length c0_3), (.slice A0_4 l0_4.length c0_4)] 36 (0, 0))) ∧ Aside0 (Below w.heap.size w wc))
 case first =>
  have H := HC2.out
  clear HC2
  by_cases c4 : a0_0 < 1
  ·
   rw [if_pos c4] at H
   have c4b0 : decide (a0_0 < 1) = true := decide_eq_true c4
   clear c4
   (first | rw [c4b0] | (simp only [i64_w, i32_w]; rw [c4b0]) | skip)
   have H' := Aside0.mk H
   clear H
   obtain ⟨hcz5_0, hcz5_1, hcz5_2, hcz5_3, hcz5_4, hfz5_0, hfz5_1, hfz5_2, hfz5_3, hfz5_4⟩ := z5 BK175
   go_wp2
   go_meet
   case rel => exact ⟨_, (true), rs_, H', ⟨by first | omega | exact Nat.le_refl _⟩, ⟨uB BK175.out⟩, ⟨bl⟩⟩
  ·
   rw [if_neg c4] at H
   have c4b0 : decide (a0_0 < 1) = false := decide_eq_false c4
   clear c4
   (first | rw [c4b0] | (simp only [i64_w, i32_w]; rw [c4b0]) | skip)
   have H' := Aside0.mk H
   clear H
   obtain ⟨hcz6_0, hcz6_1, hcz6_2, hcz6_3, hcz6_4, hfz6_0, hfz6_1, hfz6_2, hfz6_3, hfz6_4⟩ := z5 BK175
   go_wp2
   go_meet
   case rel => exact ⟨_, (decide (a0_0 > 3)), rs_, H', ⟨by first | omega | exact Nat.le_refl _⟩, ⟨uB BK175.out⟩, ⟨bl⟩⟩
 case rest =>
  clear HC2
  obtain ⟨kq, x11_1, rfl, HA, HJ1, BK175, HB⟩ := hcut
  cases kq with
  | zero => exact absurd HA.out (by simp [reply_Message.j0])
  | succ kj1 =>
   have H := HA.out
   clear HA
   simp only [reply_Message.j0] at H
   by_cases c7 : x11_1 = true
   ·
    subst c7
    rw [if_pos rfl] at H
    obtain rfl := Option.some.inj H
    go_wp2
    go_ret
    exact ⟨re_, bl⟩
   ·
    replace c7 := Bool.eq_false_iff.mpr c7
    subst c7
    rw [if_neg (show ¬ (false = true) by decide)] at H
    obtain ⟨t176, A8, H⟩ := bs H
    try dsimp only at H
    have HC9 := Aside0.mk H
    clear H
    have hcz10_0 : wc.cell? ⟨gb175, 0, none⟩ = some (.int .i64 a0_0) := (blk_cell BK175.out 0).trans rfl
    have hcz10_1 : wc.cell? ⟨gb175, 1, none⟩ = some (.int .i64 a0_1) := (blk_cell BK175.out 1).trans rfl
    have hcz10_2 : wc.cell? ⟨gb175, 2, none⟩ = some (.int .i64 a0_2) := (blk_cell BK175.out 2).trans rfl
    have hcz10_3 : wc.cell? ⟨gb175, 3, none⟩ = some (.slice A0_3 l0_3.length c0_3) := (blk_cell BK175.out 3).trans rfl
    have hcz10_4 : wc.cell? ⟨gb175, 4, none⟩ = some (.slice A0_4 l0_4.length c0_4) := (blk_cell BK175.out 4).trans rfl
    have hfz10_0 := blk_frozen BK175.out 0
    have hfz10_1 := blk_frozen BK175.out 1
    have hfz10_2 := blk_frozen BK175.out 2
    have hfz10_3 := blk_frozen BK175.out 3
    have hfz10_4 := blk_frozen BK175.out 4
    go_upto_if 17 with (first | (refine gL (some 14) rfl Tryz.func38 #[.slice A0_3 l0_3.length c0_3] ?_; (with_reducible refine (row_Text.calls (hL := ld) kj1 _ _ l0_3 t176 _ ?side1 ?side2 A8.out).mono ?_); (case side1 => exact uC <| (Kd.C_below HR0_3.out HB.out)); (case side2 => exact HC0_3.out); rintro e w11 ⟨rfl, hb⟩; refine ⟨_, rfl, ?_⟩; replace BK175 := cB BK175 hb; replace HB := Aside0.mk (below_step bl hb); (try clear hb); obtain ⟨hcz12_0, hcz12_1, hcz12_2, hcz12_3, hcz12_4, hfz12_0, hfz12_1, hfz12_2, hfz12_3, hfz12_4⟩ := z5 BK175))
    (try simp only [Act.put, List.setIfInBounds_toArray, List.set_cons_zero, List.set_cons_succ])
    go_cut [3] (fun v3 wc => ∃ (kq : Nat) (x3_8 : ByteArray), v3 = .string x3_8 ∧ Aside0 (reply_Message.j1 kq x3_8 a0_0 a0_1 a0_2 l0_3 l0_4 = some r) ∧ Aside0 (kq ≤ kj1) ∧ Aside0 (wc.heap[gb175]? = some (.cells #[.int .i64 a0_0, .int .i64 a0_1, .int .i64 a0_2, (.slice A0_3 l0_3.length c0_3), (.slice A0_4 l0_4.length c0_4)] 36 (0, 0))) ∧ Aside0 (Below w.heap.size w wc))
    case first =>
     have H := HC9.out
     clear HC9
     by_cases c13 : a0_0 = 2
     ·
      rw [if_pos c13] at H
      have c13b0 : (a0_0 == 2) = true := beq_iff_eq.mpr c13
      have c13b1 : (a0_0 != 2) = false := bne_eq_false_iff_eq.mpr c13
      clear c13
      (first | rw [c13b0] | (simp only [i64_w, i32_w]; rw [c13b0]) | skip)
      obtain ⟨t177, A14, H⟩ := bs H
      try dsimp only at H
      have H' := Aside0.mk H
      clear H
      obtain ⟨hcz15_0, hcz15_1, hcz15_2, hcz15_3, hcz15_4, hfz15_0, hfz15_1, hfz15_2, hfz15_3, hfz15_4⟩ := z5 BK175
      go_wp2_with (first | (refine gL (some 20) rfl Tryz.func40 #[.slice A0_4 l0_4.length c0_4] ?_; (with_reducible refine (diff_Text.calls (hL := ld) kj1 _ _ l0_4 t177 _ ?side1 ?side2 A14.out).mono ?_); (case side1 => exact uC <| (Kd.C_below HR0_4.out HB.out)); (case side2 => exact HC0_4.out); rintro e w16 ⟨rfl, hb⟩; refine ⟨_, rfl, ?_⟩; replace BK175 := cB BK175 hb; replace HB := Aside0.mk (below_step bl hb); (try clear hb)))
      go_meet
      case rel => exact ⟨_, (t177), rs_, H', ⟨by have := HJ1.out; first | omega | exact Nat.le_refl _⟩, ⟨uB BK175.out⟩, ⟨bl⟩⟩
     ·
      rw [if_neg c13] at H
      have c13b0 : (a0_0 == 2) = false := beq_eq_false_iff_ne.mpr c13
      have c13b1 : (a0_0 != 2) = true := bne_iff_ne.mpr c13
      (first | rw [c13b0] | (simp only [i64_w, i32_w]; rw [c13b0]) | skip)
      have H' := Aside0.mk H
      clear H
      go_wp2
      go_meet
      case rel => exact ⟨_, (t176), rs_, H', ⟨by have := HJ1.out; first | omega | exact Nat.le_refl _⟩, ⟨uB BK175.out⟩, ⟨bl⟩⟩
    case rest =>
     clear HC9
     try clear c2
     try clear p2 p2
     try clear c4
     try clear c4b0
     try clear c7
     try clear hcz10_0 hcz10_1 hcz10_2 hcz10_3 hcz10_4 hfz10_0 hfz10_1 hfz10_2 hfz10_3 hfz10_4
     try clear hcz12_0 hcz12_1 hcz12_2 hcz12_3 hcz12_4 hfz12_0 hfz12_1 hfz12_2 hfz12_3 hfz12_4
     try clear hcz5_0 hcz5_1 hcz5_2 hcz5_3 hcz5_4 hfz5_0 hfz5_1 hfz5_2 hfz5_3 hfz5_4
     try clear hcz6_0 hcz6_1 hcz6_2 hcz6_3 hcz6_4 hfz6_0 hfz6_1 hfz6_2 hfz6_3 hfz6_4
     obtain ⟨kq, x3_8, rfl, HA, HJ8, BK175, HB⟩ := hcut
     cases kq with
     | zero => exact absurd HA.out (by simp [reply_Message.j1])
     | succ kj8 =>
      have H := HA.out
      clear HA
      simp only [reply_Message.j1] at H
      obtain ⟨t178, A17, H⟩ := bs H
      try dsimp only at H
      obtain ⟨ji18, hji18⟩ : ∃ j_ : Int, (wrap64 (a0_0 - 1)) = j_ := ⟨_, rfl⟩
      (first | rw [hji18] at H | simp only [hji18] at H)
      (try rw [hji18] at A17)
      have hji18w : (IntKind.i64.wrap (a0_0 - 1)) = ji18 := (i64_w _).trans hji18
      by_cases c19 : 0 ≤ (ji18)
      ·
       rw [if_pos c19] at H
       have c19b0 : decide (0 ≤ (ji18)) = true := decide_eq_true c19
       clear c19
       obtain ⟨c20b0, H⟩ := gdd H
       obtain ⟨t182, A21, H⟩ := bs H
       try dsimp only at H
       obtain ⟨t183, A22, H⟩ := bs H
       try dsimp only at H
       obtain ⟨y184, hy184⟩ : ∃ y_ : List ByteArray, y_ = (([rdOf ByteArray.empty t178 (ji18), t182, t183, x3_8] : List ByteArray)) := ⟨_, rfl⟩
       replace H : ((reply_say.f y184).bind fun t187 => (some t187)) = some r := by first | (rw [hy184]; with_reducible exact H) | (have H2_ := (Option.bind_some _ _).symm.trans H; rw [hy184]; with_reducible exact H2_) | (have H2_ := (Option.bind_some _ _).symm.trans H; with_reducible exact H2_) | with_reducible exact H | (rw [hy184]; exact H) | exact H
       have Ny184 := Aside0.mk hy184
       clear hy184
       obtain ⟨t187, A23, H⟩ := bs H
       try dsimp only at H
       obtain rfl := Option.some.inj H
       try go_wp2
       replace BK175 := Aside0.mk (blk_drew BK175.out)
       replace HB := Aside0.mk (below_drew1 HB.out)
       refine start_ (n := 16) (S := fun w' => w'.cell? ⟨gb175, 0, none⟩ = some (.int .i64 a0_0) ∧ w'.cell? ⟨gb175, 1, none⟩ = some (.int .i64 a0_1) ∧ w'.cell? ⟨gb175, 2, none⟩ = some (.int .i64 a0_2) ∧ w'.cell? ⟨gb175, 3, none⟩ = some (.slice A0_3 l0_3.length c0_3) ∧ w'.cell? ⟨gb175, 4, none⟩ = some (.slice A0_4 l0_4.length c0_4)) (ds := []) _ (by kernel_rfl) rfl rfl ⟨(blk_cell BK175.out 0).trans rfl, (blk_cell BK175.out 1).trans rfl, (blk_cell BK175.out 2).trans rfl, (blk_cell BK175.out 3).trans rfl, (blk_cell BK175.out 4).trans rfl⟩ (fun hHeld => ?_); refine with_tabW reply_Message.tab6 reply_Message.bits6 (fun HT_ HW_ => ?_)
       generalize wc.drew = w24 at BK175 HB hHeld ⊢
       refine p1 1 (some 22) ?_
       refine p1 6 (some 27) ?_
       refine p1 9 (some 30) ?_
       refine p1 12 (some 33) ?_
       refine t1 2 (some 23) rfl rfl hHeld (Or.inl ⟨by rfl, by rintro w' ⟨s0, s1, s2, s3, s4⟩; go_simp; with_reducible rfl⟩) ?_
       refine p1 3 (some 24) ?_
       refine t1 7 (some 28) rfl rfl hHeld (Or.inl ⟨by rfl, by rintro w' ⟨s0, s1, s2, s3, s4⟩; go_simp; with_reducible rfl⟩) ?_
       refine t1 10 (some 31) rfl rfl hHeld (Or.inl ⟨by rfl, by rintro w' ⟨s0, s1, s2, s3, s4⟩; go_simp; with_reducible rfl⟩) ?_
       refine o1 0 (some 21) rfl rfl (fun K hK => ?_)
       refine gS Tryz.func41 #[] ?_
       with_reducible refine (reply_kinds.calls  t178 _ A17.out).mono ?_
       rintro e w25 ⟨v179, rfl, ho0, hb⟩
       refine ⟨_, rfl, ?_⟩
       have HO180 := Aside0.mk (Kd.R_lower ho0 (below_size bl))
       replace BK175 := cB BK175 hb
       replace HB := Aside0.mk (below_step bl hb)
       (try clear hb)
       (try clear ho0)
       obtain ⟨Ao26, co26, eo26⟩ := Kd.R_slice HO180.out
       (first | subst eo26 | (injection eo26 with f1_ f2_ f3_; have f4_ := f1_.symm; have f5_ := f3_.symm; clear f1_ f2_ f3_; subst f4_; subst f5_))
       have p181 : 0 ≤ ((ji18) : Int) := od
       have q181 : (ji18) < (t178.length : Int) := od
       obtain ⟨ad181, e181, hx181_0⟩ := Kd.at_string (Kd.R_reads' HO180.out).2.2 (ji18) p181 q181
       cases e181
       replace p181 := eq_true p181
       replace q181 := eq_true q181
       refine hK.out _ _ ⟨(blk_cell BK175.out 0).trans rfl, (blk_cell BK175.out 1).trans rfl, (blk_cell BK175.out 2).trans rfl, (blk_cell BK175.out 3).trans rfl, (blk_cell BK175.out 4).trans rfl⟩ (fun hHeld => ?_)
       have hGrown_ : (fun w' : World => w'.cell? ⟨gb175, 0, none⟩ = some (.int .i64 a0_0) ∧ w'.cell? ⟨gb175, 1, none⟩ = some (.int .i64 a0_1) ∧ w'.cell? ⟨gb175, 2, none⟩ = some (.int .i64 a0_2) ∧ w'.cell? ⟨gb175, 3, none⟩ = some (.slice A0_3 l0_3.length c0_3) ∧ w'.cell? ⟨gb175, 4, none⟩ = some (.slice A0_4 l0_4.length c0_4) ∧ w'.cell? (ad181.add ((ji18)).toNat) = some (.string (rdOf ByteArray.empty t178 (ji18)))) _ := ⟨(blk_cell BK175.out 0).trans rfl, (blk_cell BK175.out 1).trans rfl, (blk_cell BK175.out 2).trans rfl, (blk_cell BK175.out 3).trans rfl, (blk_cell BK175.out 4).trans rfl, hx181_0⟩
       refine reply_Message.grow (S' := fun w' => w'.cell? ⟨gb175, 0, none⟩ = some (.int .i64 a0_0) ∧ w'.cell? ⟨gb175, 1, none⟩ = some (.int .i64 a0_1) ∧ w'.cell? ⟨gb175, 2, none⟩ = some (.int .i64 a0_2) ∧ w'.cell? ⟨gb175, 3, none⟩ = some (.slice A0_3 l0_3.length c0_3) ∧ w'.cell? ⟨gb175, 4, none⟩ = some (.slice A0_4 l0_4.length c0_4) ∧ w'.cell? (ad181.add ((ji18)).toNat) = some (.string (rdOf ByteArray.empty t178 (ji18)))) (fun w' h_ => ⟨h_.1, h_.2.1, h_.2.2.1, h_.2.2.2.1, h_.2.2.2.2.1⟩) _ _ _ _ hGrown_ ?_
       clear hHeld
       have hHeld := hGrown_
       clear hGrown_
       clear hK K
       refine norm_ (a' := ?_) ?_ ?_
       rotate_left
       ·
        show Act.put _ (some 21) _ = _
        simp only [Act.put, List.setIfInBounds_toArray, List.set_cons_zero, List.set_cons_succ, i64_w, i32_w]
        rfl
       refine p1 4 (some 25) ?_
       refine t1 5 (some 26) rfl rfl hHeld (Or.inl ⟨by rfl, by rintro w' ⟨s0, s1, s2, s3, s4, s5⟩; go_simp; with_reducible rfl⟩) ?_
       refine o1 8 (some 29) rfl rfl (fun K hK => ?_)
       refine gS Tryz.func35 #[.int .i64 a0_1] ?_
       with_reducible refine (sat_Number.calls (hL := ld) a0_1 t182 _ A21.out).mono ?_
       rintro e w27 ⟨rfl, hb⟩
       have HS5_ := (hb.cell (World.block_lt_of_cell? _ _ (hHeld.2.2.2.2.2))).trans (hHeld.2.2.2.2.2)
       refine ⟨_, rfl, ?_⟩
       replace HO180 := cR HO180 hb
       replace BK175 := cB BK175 hb
       replace HB := Aside0.mk (below_step bl hb)
       (try clear hb)
       refine hK.out _ _ ⟨(blk_cell BK175.out 0).trans rfl, (blk_cell BK175.out 1).trans rfl, (blk_cell BK175.out 2).trans rfl, (blk_cell BK175.out 3).trans rfl, (blk_cell BK175.out 4).trans rfl, HS5_⟩ (fun hHeld => ?_)
       clear hK K
       refine norm_ (a' := ?_) ?_ ?_
       rotate_left
       ·
        show Act.put _ (some 29) _ = _
        simp only [Act.put, List.setIfInBounds_toArray, List.set_cons_zero, List.set_cons_succ, i64_w, i32_w]
        rfl
       refine o1 11 (some 32) rfl rfl (fun K hK => ?_)
       refine gS Tryz.func35 #[.int .i64 a0_2] ?_
       with_reducible refine (sat_Number.calls (hL := ld) a0_2 t183 _ A22.out).mono ?_
       rintro e w28 ⟨rfl, hb⟩
       have HS5_ := (hb.cell (World.block_lt_of_cell? _ _ (hHeld.2.2.2.2.2))).trans (hHeld.2.2.2.2.2)
       refine ⟨_, rfl, ?_⟩
       replace HO180 := cR HO180 hb
       replace BK175 := cB BK175 hb
       replace HB := Aside0.mk (below_step bl hb)
       (try clear hb)
       refine hK.out _ _ ⟨(blk_cell BK175.out 0).trans rfl, (blk_cell BK175.out 1).trans rfl, (blk_cell BK175.out 2).trans rfl, (blk_cell BK175.out 3).trans rfl, (blk_cell BK175.out 4).trans rfl, HS5_⟩ (fun hHeld => ?_)
       clear hK K
       refine norm_ (a' := ?_) ?_ ?_
       rotate_left
       ·
        show Act.put _ (some 32) _ = _
        simp only [Act.put, List.setIfInBounds_toArray, List.set_cons_zero, List.set_cons_succ, i64_w, i32_w]
        rfl
       refine o1 13 (some 34) rfl rfl (fun K hK => ?_)
       refine Kd.R_lit_step Kd.string _ 9 ?hg (N := 34) ?hd (xs := ([rdOf ByteArray.empty t178 (ji18), t182, t183, x3_8] : List ByteArray)) (inner := [.string (rdOf ByteArray.empty t178 (ji18)), .string t182, .string t183, .string x3_8]) (ok := fun _ => True) (okp := fun _ => True) ?hr ?hp (fun _ hk => hk) trivial (Below.refl _ _) (Nat.le_refl _) (by simp) ?_; (case hd => rfl); (case hg => rfl); (case hr => first | (go_simp; done) | (go_simp; rfl)); (case hp => exact (Reps.one (show Kd.M Kd.string _ _ _ (rdOf ByteArray.empty t178 (ji18)) [.string (rdOf ByteArray.empty t178 (ji18))] from rfl) (Reps.one (show Kd.M Kd.string _ _ _ t182 [.string t182] from rfl) (Reps.one (show Kd.M Kd.string _ _ _ t183 [.string t183] from rfl) (Reps.one (show Kd.M Kd.string _ _ _ x3_8 [.string x3_8] from rfl) (Reps.none _ _))))))
       intro v185 w29 ho30 hb hg_ hnew_
       have HS5_ := (hb.cell (World.block_lt_of_cell? _ _ (hHeld.2.2.2.2.2))).trans (hHeld.2.2.2.2.2)
       clear hg_ hnew_
       (first | rw [← Ny184.out] at ho30 | (simp only [Int.reduceToNat] at ho30; rw [← Ny184.out] at ho30))
       have HO186 := Aside0.mk (Kd.R_lower (Kd.R_new' ho30 (Kd.R_lt (uR HO180.out))) (below_size bl))
       replace HO180 := Aside0.mk (Kd.R_elder' (uR HO180.out) (Kd.R_base ho30) hb)
       replace BK175 := cB BK175 hb
       replace HB := Aside0.mk (below_step bl hb)
       clear hb ho30
       obtain ⟨Ao31, co31, eo31⟩ := Kd.R_slice HO186.out
       (first | subst eo31 | (injection eo31 with f1_ f2_ f3_; have f4_ := f1_.symm; have f5_ := f3_.symm; clear f1_ f2_ f3_; subst f4_; subst f5_))
       refine hK.out _ _ ⟨(blk_cell BK175.out 0).trans rfl, (blk_cell BK175.out 1).trans rfl, (blk_cell BK175.out 2).trans rfl, (blk_cell BK175.out 3).trans rfl, (blk_cell BK175.out 4).trans rfl, HS5_⟩ (fun hHeld => ?_)
       clear hK K
       refine norm_ (a' := ?_) ?_ ?_
       rotate_left
       ·
        show Act.put _ (some 34) _ = _
        simp only [Act.put, List.setIfInBounds_toArray, List.set_cons_zero, List.set_cons_succ, i64_w, i32_w]
        rfl
       refine o1 14 (some 35) rfl rfl (fun K hK => ?_)
       refine gS Tryz.func33 #[.slice Ao31 y184.length co31] ?_
       with_reducible refine (reply_say.calls _ _ y184 t187 _ ?side1 ?side2 A23.out).mono ?_
       (case side1 => exact uC <| (Kd.R_reads' HO186.out).2.2)
       (case side2 => exact (Kd.R_reads' HO186.out).2.1)
       rintro e w32 ⟨rfl, hb⟩
       have HS5_ := (hb.cell (World.block_lt_of_cell? _ _ (hHeld.2.2.2.2.2))).trans (hHeld.2.2.2.2.2)
       refine ⟨_, rfl, ?_⟩
       replace HO180 := cR HO180 hb
       replace HO186 := cR HO186 hb
       replace BK175 := cB BK175 hb
       replace HB := Aside0.mk (below_step bl hb)
       (try clear hb)
       refine hK.out _ _ ⟨(blk_cell BK175.out 0).trans rfl, (blk_cell BK175.out 1).trans rfl, (blk_cell BK175.out 2).trans rfl, (blk_cell BK175.out 3).trans rfl, (blk_cell BK175.out 4).trans rfl, HS5_⟩ (fun hHeld => ?_)
       clear hK K
       refine norm_ (a' := ?_) ?_ ?_
       rotate_left
       ·
        show Act.put _ (some 35) _ = _
        simp only [Act.put, List.setIfInBounds_toArray, List.set_cons_zero, List.set_cons_succ, i64_w, i32_w]
        rfl
       refine p1 15 (some 2) ?_
       refine done_ (done_of HT_.out (by kernel_rfl)) ?_
       try go_wp2
       go_ret
       exact ⟨by first | rfl | (simp [errW_none, errW_some] <;> rfl) | (simp only [← hji18]; first | rfl | (simp [errW_none, errW_some] <;> rfl)) | (simp [*, errW_none, errW_some] <;> rfl), bl⟩
      ·
       rw [if_neg c19] at H
       exact absurd H (by simp)
abbrev wr_ (e : Int) : List PanicEntry := [{ v := .iface 86 (.agg #[.int .i64 e]), recovered := false }]
theorem reply_must.good (w : World) : Calls Tryz.prog 51 #[.int .i64 0] w fun x w' => x = .returned (.tuple #[]) ∧ w' = w := by
 go_enter Tryz.func51, Tryz.ntmps51
 go_wp2
 go_end0
 exact ⟨rfl, rfl⟩
theorem reply_must.bad (e : Int) (h : e ≠ 0) (w : World) : Calls Tryz.prog 51 #[.int .i64 e] w fun x w' => x = .panicked (wr_ e) ∧ w' = w := by
 have hu86 := Tryz.underlying86
 have h1 : (e != 0) = true := bne_iff_ne.2 h
 go_enter Tryz.func51, Tryz.ntmps51
 go_wp2
 exact ⟨rfl, rfl, rfl⟩
theorem reply_caught.calls (e : Int) (w : World) : Calls Tryz.prog 44 #[.iface 86 (.agg #[.int .i64 e])] w fun x w' => x = .returned (.int .i64 e) ∧ Below w.heap.size w w' := by
 have hu86 := Tryz.underlying86
 have hta : ∀ w : World, (Instr.typeAssert (.iface 86 (.agg #[.int .i64 e])) 20 86 true).run Tryz.prog w = .ok (.tuple #[.agg #[.int .i64 e], .bool true]) w := fun _ => by kernel_rfl
 go_enter Tryz.func44, Tryz.ntmps44
 go_wp2
 go_ret
 exact ⟨rfl, (Below.refl _ _).alloc (Nat.le_refl _) _⟩
def strings_IndexByte.f (a0 : ByteArray) (a1 : Int) : Option (Int) := some (Lib.indexByte a0.data.toList a1.toNat.toUInt8)
theorem strings_IndexByte.calls (a0 : ByteArray) (a1 : Int) (r : Int) (w : World) (h : strings_IndexByte.f a0 a1 = some r) :
 Calls Tryz.prog 82 #[.string a0, .int .u8 a1] w fun e w' => e = .returned (.int .i64 r) ∧ Drawn0 w w' := by
 obtain rfl := Option.some.inj h
 exact (Tryz.strings_IndexByte a0 a1 w).mono fun e w' hh => ⟨hh.1, hh.2 ▸ Drawn0.refl _⟩
end Go.Proofs.YteckidchnicjeaaGreatDoor.X
