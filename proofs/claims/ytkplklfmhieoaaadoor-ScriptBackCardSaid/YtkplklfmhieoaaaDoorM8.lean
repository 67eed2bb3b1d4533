/- Printed by a program of this session's own: what functions of the program compute, and that the machine computes it. No condition of its own. -/
import Derived.Test.YtkplklfmhieoaaaDoorM3
import Derived.Test.YtkplklfmhieoaaaDoorM4
import Derived.Test.YtkplklfmhieoaaaDoorM5
import Derived.Test.YtkplklfmhieoaaaDoorM6
import Derived.Test.YtkplklfmhieoaaaDoorM7
namespace Go.Proofs.YtkplklfmhieoaaaDoor.X
open Go.RowKit Go.Proofs.YtkplklfmhieoaaaDoorW.PrintWords Go.Proofs.YtkplklfmhieoaaaDoorW.PrintLast Go.Proofs.YtkplklfmhieoaaaDoorW.PrintMore
attribute [local go_sem] max2_int min2_int max_two min_two max_three min_three max_four min_four
set_option linter.unusedVariables false
set_option linter.unusedSimpArgs false
set_option maxHeartbeats 8000000
set_option maxRecDepth 100000
mutual
def w26_ScriptBack.j0 : Nat → List (S36) → ByteArray → Bool → Option (Bool)
 | 0, _, _, _ => none
 | k + 1, x0, x1, x24 => if x24 = true then (some true) else ((script_Text.f k x0).bind fun bt243 => (if bt243.2 = 0 then ((script_Parse.f k bt243.1).bind fun bt245 => (if bt245.2.2 = 0 then ((r26_Same.f k bt245.1 x0).bind fun t250 => (if t250 = true then (w26_ScriptBack.j1 k x0 x1 bt243.2) else (none))) else (none))) else (w26_ScriptBack.j1 k x0 x1 bt243.2)))
def w26_ScriptBack.j1 : Nat → List (S36) → ByteArray → Int → Option (Bool)
 | 0, _, _, _ => none
 | k + 1, x0, x1, x6 => (script_Parse.f k x1).bind fun bt251 => (if bt251.2.2 = 0 then ((script_Text.f k bt251.1).bind fun bt256 => (if bt256.2 = 0 then (if bt256.1.toList = x1.toList then (if bt251.2.1 = 0 then ((r26_Right.f k bt251.1).bind fun t258 => (some t258)) else (none)) else (none)) else (none))) else (if (bt251.1.length : Int) = 0 then (if bt251.2.1 ≥ 1 then ((r26_Right.f k x0).bind fun t259 => (some ((x6 == 0) == t259))) else (none)) else (none)))
end
def w26_ScriptBack.f (k : Nat) (l0 : List (S36)) (a1 : ByteArray) : Option (Bool) := (w26_alive.f k).bind fun t241 => (if t241 = true then ((r25_Few.f k l0 2010).bind fun t242 => (if t242 = true then (w26_ScriptBack.j0 k l0 a1 (decide ((a1.size : Int) > 20000))) else (w26_ScriptBack.j0 k l0 a1 true))) else (none))
theorem w26_ScriptBack.mono_l : ∀ k, (∀ y0 y1 y2, LeC (w26_ScriptBack.j0 k y0 y1 y2) (w26_ScriptBack.j0 (k + 1) y0 y1 y2)) ∧ (∀ y0 y1 y2, LeC (w26_ScriptBack.j1 k y0 y1 y2) (w26_ScriptBack.j1 (k + 1) y0 y1 y2))
 | 0 => ⟨fun _ _ _ => ⟨fun r h => by simp [w26_ScriptBack.j0] at h⟩, fun _ _ _ => ⟨fun r h => by simp [w26_ScriptBack.j1] at h⟩⟩
 | k + 1 => by obtain ⟨ih0, ih1⟩ := w26_ScriptBack.mono_l k; exact ⟨fun _ _ _ => by unfold w26_ScriptBack.j0; exact lm, fun _ _ _ => by unfold w26_ScriptBack.j1; exact lm⟩
theorem w26_ScriptBack.mono : ∀ a0 a1 k, LeO (w26_ScriptBack.f k a0 a1) (w26_ScriptBack.f (k + 1) a0 a1) := by
 intro a0 a1 k
 obtain ⟨ih0, ih1⟩ := w26_ScriptBack.mono_l k
 unfold w26_ScriptBack.f
 exact lo
instance w26_ScriptBack.mI {a0 a1 k} : LeC (w26_ScriptBack.f k a0 a1) (w26_ScriptBack.f (k + 1) a0 a1) := ⟨w26_ScriptBack.mono _ _ _⟩
theorem w26_ScriptBack.calls (k : Nat) (A0 : Option Addr) (c0 : Nat) (l0 : List (S36)) (a1 : ByteArray) (r : Bool) (w : World) (hr0 : Kd.C k36 w A0 l0.length l0) (hc0 : l0.length ≤ c0) (hL : LD w) (h : w26_ScriptBack.f k l0 a1 = some r) :
 Calls Tryd.prog 3 #[.slice A0 l0.length c0, .string a1] w fun e w' => e = .returned (.bool r) ∧ Below w.heap.size w w' := by
 have HL0 := Aside0.mk hL
 clear hL
 have HR0 := Aside0.mk hr0
 have HC0 := Aside0.mk hc0
 clear hr0 hc0
 have HB := Aside0.mk (Below.refl w.heap.size w)
 have H : ((w26_alive.f k).bind fun t241 => (if t241 = true then ((r25_Few.f k l0 2010).bind fun t242 => (if t242 = true then (w26_ScriptBack.j0 k l0 a1 (decide ((a1.size : Int) > 20000))) else (w26_ScriptBack.j0 k l0 a1 true))) else (none))) = some r := h
 clear h
 obtain ⟨t241, A3, H⟩ := bs H
 try dsimp only at H
 by_cases c4 : t241 = true
 ·
  subst c4
  rw [if_pos rfl] at H
  have HC5 := Aside0.mk H
  clear H
  go_enter Tryd.func3, Tryd.ntmps3
  go_upto_region 3 with (first | (refine gL (some 15) rfl Tryd.func5 #[] ?_; (with_reducible refine (w26_alive.calls (hL := ld) k  true _ A3.out).mono ?_); rintro e w6 ⟨rfl, hb⟩; refine ⟨_, rfl, ?_⟩; replace HB := cW HB hb; (try clear hb)))
  (try simp only [Act.put, List.setIfInBounds_toArray, List.set_cons_zero, List.set_cons_succ])
  go_cut [24] (fun v24 wc => ∃ (kq : Nat) (x24_4 : Bool), v24 = .bool x24_4 ∧ Aside0 (w26_ScriptBack.j0 kq l0 a1 x24_4 = some r) ∧ Aside0 (kq ≤ k) ∧ Aside0 (Below w.heap.size w wc))
  case first =>
   have H := HC5.out
   clear HC5
   obtain ⟨t242, A7, H⟩ := bs H
   try dsimp only at H
   by_cases c8 : t242 = true
   ·
    subst c8
    rw [if_pos rfl] at H
    have H' := Aside0.mk H
    clear H
    go_wp2_with (first | (refine gL (some 18) rfl Tryd.func6 #[.slice A0 l0.length c0, .int .i64 2010] ?_; (with_reducible refine (r25_Few.calls k _ _ l0 2010 true _ ?side1 ?side2 A7.out).mono ?_); (case side1 => exact uC <| (Kd.C_below HR0.out HB.out)); (case side2 => exact HC0.out); rintro e w' ⟨rfl, ⟨nd, rfl⟩⟩; refine ⟨_, rfl, ?_⟩))
    go_meet
    case rel => exact ⟨_, (decide ((a1.size : Int) > 20000)), rs_, H', ⟨by first | omega | exact Nat.le_refl _⟩, ⟨uW HB.out⟩⟩
   ·
    replace c8 := Bool.eq_false_iff.mpr c8
    subst c8
    rw [if_neg (show ¬ (false = true) by decide)] at H
    have H' := Aside0.mk H
    clear H
    go_wp2_with (first | (refine gL (some 18) rfl Tryd.func6 #[.slice A0 l0.length c0, .int .i64 2010] ?_; (with_reducible refine (r25_Few.calls k _ _ l0 2010 false _ ?side1 ?side2 A7.out).mono ?_); (case side1 => exact uC <| (Kd.C_below HR0.out HB.out)); (case side2 => exact HC0.out); rintro e w' ⟨rfl, ⟨nd, rfl⟩⟩; refine ⟨_, rfl, ?_⟩))
    go_meet
    case rel => exact ⟨_, (true), rs_, H', ⟨by first | omega | exact Nat.le_refl _⟩, ⟨uW HB.out⟩⟩
  case rest =>
   clear HC5
   try clear p2
   try clear c3
   try clear c4
   try clear c5
   try clear c6
   try clear c8
   obtain ⟨kq, x24_4, rfl, HA, HJ4, HB⟩ := hcut
   cases kq with
   | zero => exact absurd HA.out (by simp [w26_ScriptBack.j0])
   | succ kj4 =>
    have H := HA.out
    clear HA
    simp only [w26_ScriptBack.j0] at H
    by_cases c9 : x24_4 = true
    ·
     subst c9
     rw [if_pos rfl] at H
     obtain rfl := Option.some.inj H
     go_wp2
     go_ret
     exact ⟨re_, uW HB.out⟩
    ·
     replace c9 := Bool.eq_false_iff.mpr c9
     subst c9
     rw [if_neg (show ¬ (false = true) by decide)] at H
     obtain ⟨⟨t243, t244⟩, A10, H⟩ := bs H
     try dsimp only at H
     have HC11 := Aside0.mk H
     clear H
     go_upto_if 31 with (first | (refine gL (some 27) rfl Tryd.func7 #[.slice A0 l0.length c0] ?_; (with_reducible refine (script_Text.calls (hL := ld) kj4 _ _ l0 t243 t244 _ ?side1 ?side2 A10.out).mono ?_); (case side1 => exact uC <| (Kd.C_below HR0.out HB.out)); (case side2 => exact HC0.out); rintro e w12 ⟨rfl, hb⟩; refine ⟨_, rfl, ?_⟩; replace HB := cW HB hb; (try clear hb)))
     (try simp only [Act.put, List.setIfInBounds_toArray, List.set_cons_zero, List.set_cons_succ])
     go_cut [] (fun wc => ∃ (kq : Nat), Aside0 (w26_ScriptBack.j1 kq l0 a1 t244 = some r) ∧ Aside0 (kq ≤ kj4) ∧ Aside0 (Below w.heap.size w wc))
     case first =>
      have H := HC11.out
      clear HC11
      by_cases c13 : t244 = 0
      ·
       rw [if_pos c13] at H
       have c13b0 : (t244 == 0) = true := beq_iff_eq.mpr c13
       have c13b1 : (t244 != 0) = false := bne_eq_false_iff_eq.mpr c13
       clear c13
       (first | rw [c13b0] | (simp only [i64_w, i32_w]; rw [c13b0]) | skip)
       obtain ⟨⟨t245, t246, t247⟩, A14, H⟩ := bs H
       try dsimp only at H
       obtain ⟨c15, H⟩ := gd H
       have c15b0 : (t247 == 0) = true := beq_iff_eq.mpr c15
       have c15b1 : (t247 != 0) = false := bne_eq_false_iff_eq.mpr c15
       clear c15
       obtain ⟨t250, A16, H⟩ := bs H
       try dsimp only at H
       by_cases c17 : t250 = true
       ·
        subst c17
        rw [if_pos rfl] at H
        have H' := Aside0.mk H
        clear H
        go_wp2_with (first | (refine gL (some 34) rfl Tryd.func8 #[.string t243] ?_; (with_reducible refine (script_Parse.calls (hL := ld) kj4 t243 t245 t246 t247 _ A14.out).mono ?_); rintro e w18 ⟨v248, rfl, ho0, hb⟩; refine ⟨_, rfl, ?_⟩; have HO249 := Aside0.mk (Kd.S_lower ho0 (below_size (uW HB.out))); replace HB := cW HB hb; (try clear hb); (try clear ho0); obtain ⟨Ao19, co19, eo19⟩ := Kd.S_slice HO249.out; subst eo19) | (go_at_call 9; (with_reducible refine (r26_Same.calls kj4 _ _ t245 _ _ l0 true _ ?side1 ?side2 ?side3 ?side4 A16.out).mono ?_); (case side1 => exact uC <| (Kd.S_reads' HO249.out).2.2); (case side2 => exact (Kd.S_reads' HO249.out).2.1); (case side3 => exact uC <| (Kd.C_below HR0.out HB.out)); (case side4 => exact HC0.out); rintro e w' ⟨rfl, ⟨nd, rfl⟩⟩))
        go_meet
        case rel => exact ⟨_, H', ⟨by have := HJ4.out; first | omega | exact Nat.le_refl _⟩, ⟨uW HB.out⟩⟩
       ·
        replace c17 := Bool.eq_false_iff.mpr c17
        subst c17
        rw [if_neg (show ¬ (false = true) by decide)] at H
        exact absurd H (by simp)
      ·
       rw [if_neg c13] at H
       have c13b0 : (t244 == 0) = false := beq_eq_false_iff_ne.mpr c13
       have c13b1 : (t244 != 0) = true := bne_iff_ne.mpr c13
       (first | rw [c13b0] | (simp only [i64_w, i32_w]; rw [c13b0]) | skip)
       have H' := Aside0.mk H
       clear H
       go_wp2
       go_meet
       case rel => exact ⟨_, H', ⟨by have := HJ4.out; first | omega | exact Nat.le_refl _⟩, ⟨uW HB.out⟩⟩
     case rest =>
      clear HC11
      try clear c1
      try clear p2
      try clear c3
      try clear c4
      try clear c5
      try clear c6
      try clear c7
      try clear c8
      try clear c9
      try clear c13
      try clear c13b0
      try clear c13b1
      try clear c15
      try clear c15b0
      try clear c15b1
      try clear c17
      try clear p2
      obtain ⟨kq, HA, HJ10, HB⟩ := hcut
      cases kq with
      | zero => exact absurd HA.out (by simp [w26_ScriptBack.j1])
      | succ kj10 =>
       have H := HA.out
       clear HA
       simp only [w26_ScriptBack.j1] at H
       obtain ⟨⟨t251, t252, t253⟩, A20, H⟩ := bs H
       try dsimp only at H
       by_cases c21 : t253 = 0
       ·
        rw [if_pos c21] at H
        have c21b0 : (t253 == 0) = true := beq_iff_eq.mpr c21
        have c21b1 : (t253 != 0) = false := bne_eq_false_iff_eq.mpr c21
        clear c21
        obtain ⟨⟨t256, t257⟩, A22, H⟩ := bs H
        try dsimp only at H
        obtain ⟨c23, H⟩ := gd H
        have c23b0 : (t257 == 0) = true := beq_iff_eq.mpr c23
        have c23b1 : (t257 != 0) = false := bne_eq_false_iff_eq.mpr c23
        clear c23
        obtain ⟨c24, H⟩ := gd H
        have c24b0 : (t256.toList == a1.toList) = true := beq_iff_eq.mpr c24
        have c24b1 : (t256.toList != a1.toList) = false := bne_eq_false_iff_eq.mpr c24
        clear c24
        obtain ⟨c25, H⟩ := gd H
        have c25b0 : (t252 == 0) = true := beq_iff_eq.mpr c25
        have c25b1 : (t252 != 0) = false := bne_eq_false_iff_eq.mpr c25
        clear c25
        obtain ⟨t258, A26, H⟩ := bs H
        try dsimp only at H
        obtain rfl := Option.some.inj H
        go_wp2_with (first | (refine gL (some 48) rfl Tryd.func8 #[.string a1] ?_; (with_reducible refine (script_Parse.calls (hL := ld) kj10 a1 t251 t252 t253 _ A20.out).mono ?_); rintro e w27 ⟨v254, rfl, ho0, hb⟩; refine ⟨_, rfl, ?_⟩; have HO255 := Aside0.mk (Kd.S_lower ho0 (below_size (uW HB.out))); replace HB := cW HB hb; (try clear hb); (try clear ho0); obtain ⟨Ao28, co28, eo28⟩ := Kd.S_slice HO255.out; subst eo28) | (refine gL (some 70) rfl Tryd.func7 #[.slice Ao28 t251.length co28] ?_; (with_reducible refine (script_Text.calls (hL := ld) kj10 _ _ t251 t256 t257 _ ?side1 ?side2 A22.out).mono ?_); (case side1 => exact uC <| (Kd.S_reads' HO255.out).2.2); (case side2 => exact (Kd.S_reads' HO255.out).2.1); rintro e w29 ⟨rfl, hb⟩; refine ⟨_, rfl, ?_⟩; replace HO255 := cS HO255 hb; replace HB := cW HB hb; (try clear hb)) | (go_at_call 10; (with_reducible refine (r26_Right.calls kj10 _ _ t251 t258 _ ?side1 ?side2 A26.out).mono ?_); (case side1 => exact uC <| (Kd.S_reads' HO255.out).2.2); (case side2 => exact (Kd.S_reads' HO255.out).2.1); rintro e w30 ⟨rfl, hb⟩; replace HO255 := cS HO255 hb; replace HB := cW HB hb; (try clear hb)))
        go_ret
        exact ⟨re_, uW HB.out⟩
       ·
        rw [if_neg c21] at H
        have c21b0 : (t253 == 0) = false := beq_eq_false_iff_ne.mpr c21
        have c21b1 : (t253 != 0) = true := bne_iff_ne.mpr c21
        obtain ⟨c31, H⟩ := gd H
        have c31b0 : ((t251.length : Int) == 0) = true := beq_iff_eq.mpr c31
        have c31b1 : ((t251.length : Int) != 0) = false := bne_eq_false_iff_eq.mpr c31
        clear c31
        obtain ⟨c32b0, H⟩ := gdd H
        obtain ⟨t259, A33, H⟩ := bs H
        try dsimp only at H
        obtain rfl := Option.some.inj H
        go_wp2_with (first | (refine gL (some 48) rfl Tryd.func8 #[.string a1] ?_; (with_reducible refine (script_Parse.calls (hL := ld) kj10 a1 t251 t252 t253 _ A20.out).mono ?_); rintro e w34 ⟨v254, rfl, ho0, hb⟩; refine ⟨_, rfl, ?_⟩; have HO255 := Aside0.mk (Kd.S_lower ho0 (below_size (uW HB.out))); replace HB := cW HB hb; (try clear hb); (try clear ho0); obtain ⟨Ao35, co35, eo35⟩ := Kd.S_slice HO255.out; subst eo35) | (go_at_call 10; (with_reducible refine (r26_Right.calls kj10 _ _ l0 t259 _ ?side1 ?side2 A33.out).mono ?_); (case side1 => exact uC <| (Kd.C_below HR0.out HB.out)); (case side2 => exact HC0.out); rintro e w36 ⟨rfl, hb⟩; replace HO255 := cS HO255 hb; replace HB := cW HB hb; (try clear hb)))
        go_ret
        exact ⟨re_, uW HB.out⟩
 ·
  replace c4 := Bool.eq_false_iff.mpr c4
  subst c4
  rw [if_neg (show ¬ (false = true) by decide)] at H
  exact absurd H (by simp)
def w26_ScriptBack.Pure : Prop := ∀ (l0 : List (S36)) (a1 : ByteArray), (l0.length ≤ maxLen ∧ ∀ x0_ ∈ l0, Q36 x0_) → l0.length * 40 ≤ 140737488351232 → (a1.size ≤ 140737488351232) → ∃ k, w26_ScriptBack.f k l0 a1 = some true
theorem w26_ScriptBack.walk (P : w26_ScriptBack.Pure) (l0 : List (S36)) (a1 : ByteArray) (w : World) (hL : LD w) (A0 : Option Addr) (c0 : Nat) (hr0 : Kd.C k36 w A0 l0.length l0) (hc0 : l0.length ≤ c0) (q0 : l0.length ≤ maxLen ∧ ∀ x0_ ∈ l0, Q36 x0_) (y0 : l0.length * 40 ≤ 140737488351232) (q1 : a1.size ≤ 140737488351232) :
 Calls Tryd.prog 3 #[.slice A0 l0.length c0, .string a1] w fun e w' => e = .returned (.bool true) ∧ Below w.heap.size w w' := by
 obtain ⟨k, h⟩ := P l0 a1 q0 y0 q1
 refine (w26_ScriptBack.calls (hL := hL) k A0 c0 l0 a1 true w hr0 hc0 h).mono ?_
 rintro e w' ⟨rfl, hd⟩
 exact ⟨rfl, hd⟩
end Go.Proofs.YtkplklfmhieoaaaDoor.X
