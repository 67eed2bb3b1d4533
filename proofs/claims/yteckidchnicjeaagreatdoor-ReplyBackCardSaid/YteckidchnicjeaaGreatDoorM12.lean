/- Printed by a program of this session's own: what functions of the program compute, and that the machine computes it. No condition of its own. -/
import Derived.Test.YteckidchnicjeaaGreatDoorM3
import Derived.Test.YteckidchnicjeaaGreatDoorM4
import Derived.Test.YteckidchnicjeaaGreatDoorM5
import Derived.Test.YteckidchnicjeaaGreatDoorM7
import Derived.Test.YteckidchnicjeaaGreatDoorM8
import Derived.Test.YteckidchnicjeaaGreatDoorM9
import Derived.Test.YteckidchnicjeaaGreatDoorM10
import Derived.Test.YteckidchnicjeaaGreatDoorM11
namespace Go.Proofs.YteckidchnicjeaaGreatDoor.X
open Go.RowKit Go.Proofs.YteckidchnicjeaaGreatDoorW.PrintWords Go.Proofs.YteckidchnicjeaaGreatDoorW.PrintLast Go.Proofs.YteckidchnicjeaaGreatDoorW.PrintMore
attribute [local go_sem] max2_int min2_int max_two min_two max_three min_three max_four min_four
set_option linter.unusedVariables false
set_option linter.unusedSimpArgs false
set_option maxHeartbeats 24000000
set_option maxRecDepth 100000
mutual
def w23_ReplyBack.j0 : Nat → ByteArray → Bool → Int → Int → List (S60) → Int → Int → Int → List (S60) → List (S78) → Option (Bool)
 | 0, _, _, _, _, _, _, _, _, _, _ => none
 | k + 1, x2, x31, x559000, x559001, x559002, x560000, x560001, x560002, x560003, x560004 => if x31 = true then (some true) else (if x559001 ≥ 0 then ((r08_Right.f k x559002).bind fun t566 => (w23_ReplyBack.j1 k x2 t566 x559000 x559001 x559002 x560000 x560001 x560002 x560003 x560004)) else (w23_ReplyBack.j1 k x2 false x559000 x559001 x559002 x560000 x560001 x560002 x560003 x560004))
def w23_ReplyBack.j1 : Nat → ByteArray → Bool → Int → Int → List (S60) → Int → Int → Int → List (S60) → List (S78) → Option (Bool)
 | 0, _, _, _, _, _, _, _, _, _, _ => none
 | k + 1, x2, x39, x559000, x559001, x559002, x560000, x560001, x560002, x560003, x560004 => if x39 = true then ((reply_Rows.f k x559000 x559001 x559002).bind fun t567 => ((reply_ReadRows.f k t567).bind fun bt568 => (if bt568.2.2.2 = 0 then (if bt568.1 = 0 then (if bt568.2.1 = x559001 then ((r08_Same.f k bt568.2.2.1 x559002).bind fun t575 => (if t575 = true then (w23_ReplyBack.j2 k x2 x560000 x560001 x560002 x560003 x560004) else (none))) else (none)) else (none)) else (none)))) else (w23_ReplyBack.j2 k x2 x560000 x560001 x560002 x560003 x560004)
def w23_ReplyBack.j2 : Nat → ByteArray → Int → Int → Int → List (S60) → List (S78) → Option (Bool)
 | 0, _, _, _, _, _, _ => none
 | k + 1, x2, x560000, x560001, x560002, x560003, x560004 => if x560002 ≥ 0 then (if x560001 ≥ 0 then (if x560001 < 2147483648 then ((r08_Right.f k x560003).bind fun t576 => (if t576 = true then ((r09_Right.f k x560004).bind fun t577 => (if t577 = true then (if x560000 = 2 then (if (x560003.length : Int) = 0 then (w23_ReplyBack.j3 k x2 true x560000 x560001 x560002 x560003 x560004) else (if x560000 = 1 then (w23_ReplyBack.j3 k x2 ((x560004.length : Int) == 0) x560000 x560001 x560002 x560003 x560004) else (if x560000 = 3 then (w23_ReplyBack.j3 k x2 ((x560004.length : Int) == 0) x560000 x560001 x560002 x560003 x560004) else (w23_ReplyBack.j3 k x2 false x560000 x560001 x560002 x560003 x560004)))) else (if x560000 = 1 then (w23_ReplyBack.j3 k x2 ((x560004.length : Int) == 0) x560000 x560001 x560002 x560003 x560004) else (if x560000 = 3 then (w23_ReplyBack.j3 k x2 ((x560004.length : Int) == 0) x560000 x560001 x560002 x560003 x560004) else (w23_ReplyBack.j3 k x2 false x560000 x560001 x560002 x560003 x560004)))) else (w23_ReplyBack.j3 k x2 false x560000 x560001 x560002 x560003 x560004))) else (w23_ReplyBack.j3 k x2 false x560000 x560001 x560002 x560003 x560004))) else (w23_ReplyBack.j3 k x2 false x560000 x560001 x560002 x560003 x560004)) else (w23_ReplyBack.j3 k x2 false x560000 x560001 x560002 x560003 x560004)) else (w23_ReplyBack.j3 k x2 false x560000 x560001 x560002 x560003 x560004)
def w23_ReplyBack.j3 : Nat → ByteArray → Bool → Int → Int → Int → List (S60) → List (S78) → Option (Bool)
 | 0, _, _, _, _, _, _, _ => none
 | k + 1, x2, x117, x560000, x560001, x560002, x560003, x560004 => if x117 = true then ((reply_Message.f k x560000 x560001 x560002 x560003 x560004).bind fun t578 => ((reply_ReadMessage.f k t578).bind fun bt579 => (if bt579.2.2.2.2.2 = 0 then ((r19_Equal.f k bt579.1 bt579.2.1 bt579.2.2.1 bt579.2.2.2.1 bt579.2.2.2.2.1 x560000 x560001 x560002 x560003 x560004).bind fun t590 => (if t590 = true then (w23_ReplyBack.j4 k x2) else (none))) else (none)))) else (w23_ReplyBack.j4 k x2)
def w23_ReplyBack.j4 : Nat → ByteArray → Option (Bool)
 | 0, _ => none
 | k + 1, x2 => (reply_ReadStored.f k x2).bind fun bt591 => ((reply_ReadRows.f k x2).bind fun bt593 => ((reply_ReadMessage.f k x2).bind fun bt600 => (if bt591.2 = 0 then ((reply_Stored.f bt591.1).bind fun t611 => (if t611.toList = x2.toList then (if bt593.2.2.2 = 0 then ((reply_Rows.f k bt593.1 bt593.2.1 bt593.2.2.1).bind fun t612 => (if t612.toList = x2.toList then (if bt600.2.2.2.2.2 = 0 then ((reply_Message.f k bt600.1 bt600.2.1 bt600.2.2.1 bt600.2.2.2.1 bt600.2.2.2.2.1).bind fun t613 => (some (t613.toList == x2.toList))) else (some true)) else (none))) else (if bt600.2.2.2.2.2 = 0 then ((reply_Message.f k bt600.1 bt600.2.1 bt600.2.2.1 bt600.2.2.2.1 bt600.2.2.2.2.1).bind fun t614 => (some (t614.toList == x2.toList))) else (some true))) else (none))) else (if bt593.2.2.2 = 0 then ((reply_Rows.f k bt593.1 bt593.2.1 bt593.2.2.1).bind fun t615 => (if t615.toList = x2.toList then (if bt600.2.2.2.2.2 = 0 then ((reply_Message.f k bt600.1 bt600.2.1 bt600.2.2.1 bt600.2.2.2.1 bt600.2.2.2.2.1).bind fun t616 => (some (t616.toList == x2.toList))) else (some true)) else (none))) else (if bt600.2.2.2.2.2 = 0 then ((reply_Message.f k bt600.1 bt600.2.1 bt600.2.2.1 bt600.2.2.2.1 bt600.2.2.2.2.1).bind fun t617 => (some (t617.toList == x2.toList))) else (some true))))))
end
def w23_ReplyBack.f (k : Nat) (a0_0 : Int) (a0_1 : Int) (l0_2 : List (S60)) (a1_0 : Int) (a1_1 : Int) (a1_2 : Int) (l1_3 : List (S60)) (l1_4 : List (S78)) (a2 : ByteArray) : Option (Bool) := (w23_alive.f k).bind fun t560 => (if t560 = true then ((r08_Great.f k l0_2).bind fun t561 => (if t561 = true then (w23_ReplyBack.j0 k a2 true a0_0 a0_1 l0_2 a1_0 a1_1 a1_2 l1_3 l1_4) else ((r19_Much.f k (([(⟨a1_0, a1_1, a1_2, l1_3, l1_4⟩ : S36)] : List (S36)))).bind fun t565 => (if t565 = true then (w23_ReplyBack.j0 k a2 true a0_0 a0_1 l0_2 a1_0 a1_1 a1_2 l1_3 l1_4) else (w23_ReplyBack.j0 k a2 (decide ((a2.size : Int) > 500)) a0_0 a0_1 l0_2 a1_0 a1_1 a1_2 l1_3 l1_4))))) else (none))
theorem w23_ReplyBack.mono_l : ∀ k, (∀ y0 y1 y2 y3 y4 y5 y6 y7 y8 y9, LeC (w23_ReplyBack.j0 k y0 y1 y2 y3 y4 y5 y6 y7 y8 y9) (w23_ReplyBack.j0 (k + 1) y0 y1 y2 y3 y4 y5 y6 y7 y8 y9)) ∧ (∀ y0 y1 y2 y3 y4 y5 y6 y7 y8 y9, LeC (w23_ReplyBack.j1 k y0 y1 y2 y3 y4 y5 y6 y7 y8 y9) (w23_ReplyBack.j1 (k + 1) y0 y1 y2 y3 y4 y5 y6 y7 y8 y9)) ∧ (∀ y0 y1 y2 y3 y4 y5, LeC (w23_ReplyBack.j2 k y0 y1 y2 y3 y4 y5) (w23_ReplyBack.j2 (k + 1) y0 y1 y2 y3 y4 y5)) ∧ (∀ y0 y1 y2 y3 y4 y5 y6, LeC (w23_ReplyBack.j3 k y0 y1 y2 y3 y4 y5 y6) (w23_ReplyBack.j3 (k + 1) y0 y1 y2 y3 y4 y5 y6)) ∧ (∀ y0, LeC (w23_ReplyBack.j4 k y0) (w23_ReplyBack.j4 (k + 1) y0))
 | 0 => ⟨fun _ _ _ _ _ _ _ _ _ _ => ⟨fun r h => by simp [w23_ReplyBack.j0] at h⟩, fun _ _ _ _ _ _ _ _ _ _ => ⟨fun r h => by simp [w23_ReplyBack.j1] at h⟩, fun _ _ _ _ _ _ => ⟨fun r h => by simp [w23_ReplyBack.j2] at h⟩, fun _ _ _ _ _ _ _ => ⟨fun r h => by simp [w23_ReplyBack.j3] at h⟩, fun _ => ⟨fun r h => by simp [w23_ReplyBack.j4] at h⟩⟩
 | k + 1 => by obtain ⟨ih0, ih1, ih2, ih3, ih4⟩ := w23_ReplyBack.mono_l k; exact ⟨fun _ _ _ _ _ _ _ _ _ _ => by unfold w23_ReplyBack.j0; exact lm, fun _ _ _ _ _ _ _ _ _ _ => by unfold w23_ReplyBack.j1; exact lm, fun _ _ _ _ _ _ => by unfold w23_ReplyBack.j2; exact lm, fun _ _ _ _ _ _ _ => by unfold w23_ReplyBack.j3; exact lm, fun _ => by unfold w23_ReplyBack.j4; exact lm⟩
theorem w23_ReplyBack.mono : ∀ a0 a1 a2 a3 a4 a5 a6 a7 a8 k, LeO (w23_ReplyBack.f k a0 a1 a2 a3 a4 a5 a6 a7 a8) (w23_ReplyBack.f (k + 1) a0 a1 a2 a3 a4 a5 a6 a7 a8) := by
 intro a0 a1 a2 a3 a4 a5 a6 a7 a8 k
 obtain ⟨ih0, ih1, ih2, ih3, ih4⟩ := w23_ReplyBack.mono_l k
 unfold w23_ReplyBack.f
 exact lo
instance w23_ReplyBack.mI {a0 a1 a2 a3 a4 a5 a6 a7 a8 k} : LeC (w23_ReplyBack.f k a0 a1 a2 a3 a4 a5 a6 a7 a8) (w23_ReplyBack.f (k + 1) a0 a1 a2 a3 a4 a5 a6 a7 a8) := ⟨w23_ReplyBack.mono _ _ _ _ _ _ _ _ _ _⟩
theorem w23_ReplyBack.calls (k : Nat) (a0_0 : Int) (a0_1 : Int) (A0_2 : Option Addr) (c0_2 : Nat) (l0_2 : List (S60)) (a1_0 : Int) (a1_1 : Int) (a1_2 : Int) (P1_3_ : Nat → Prop) (A1_3 : Option Addr) (c1_3 : Nat) (l1_3 : List (S60)) (P1_4_ : Nat → Prop) (A1_4 : Option Addr) (c1_4 : Nat) (l1_4 : List (S78)) (a2 : ByteArray) (r : Bool) (w : World) (hr0_2 : Kd.C k60 w A0_2 l0_2.length l0_2) (hc0_2 : l0_2.length ≤ c0_2) (hs1_3 : Kd.V k60 60 w w.heap.size (fun k_ => P1_3_ k_) (.slice A1_3 l1_3.length c1_3) l1_3) (hs1_4 : Kd.V k78 78 w w.heap.size (fun k_ => P1_4_ k_) (.slice A1_4 l1_4.length c1_4) l1_4) (hL : LD w) (h : w23_ReplyBack.f k a0_0 a0_1 l0_2 a1_0 a1_1 a1_2 l1_3 l1_4 a2 = some r) :
 Calls Tryz.prog 6 #[.agg #[.int .i64 a0_0, .int .i64 a0_1, .slice A0_2 l0_2.length c0_2], .agg #[.int .i64 a1_0, .int .i64 a1_1, .int .i64 a1_2, .slice A1_3 l1_3.length c1_3, .slice A1_4 l1_4.length c1_4], .string a2] w fun e w' => e = .returned (.bool r) ∧ Below w.heap.size w w' := by
 have HL0 := Aside0.mk hL
 clear hL
 have hu33 := Tryz.underlying33
 have hu36 := Tryz.underlying36
 have HR0_2 := Aside0.mk hr0_2
 have HC0_2 := Aside0.mk hc0_2
 clear hr0_2 hc0_2
 have HO1_3 := Aside0.mk (show Kd.V k60 60 w w.heap.size (fun k_ => ((P1_3_ k_ ∨ P1_4_ k_) ∨ w.heap.size ≤ k_)) (.slice A1_3 l1_3.length c1_3) l1_3 from Kd.V_mono hs1_3 (fun k_ hk => .inl (.inl hk)))
 have HO1_4 := Aside0.mk (show Kd.V k78 78 w w.heap.size (fun k_ => ((P1_3_ k_ ∨ P1_4_ k_) ∨ w.heap.size ≤ k_)) (.slice A1_4 l1_4.length c1_4) l1_4 from Kd.V_mono hs1_4 (fun k_ hk => .inl (.inr hk)))
 have HB := Aside0.mk (Below.refl w.heap.size w)
 have H : ((w23_alive.f k).bind fun t560 => (if t560 = true then ((r08_Great.f k l0_2).bind fun t561 => (if t561 = true then (w23_ReplyBack.j0 k a2 true a0_0 a0_1 l0_2 a1_0 a1_1 a1_2 l1_3 l1_4) else ((r19_Much.f k (([(⟨a1_0, a1_1, a1_2, l1_3, l1_4⟩ : S36)] : List (S36)))).bind fun t565 => (if t565 = true then (w23_ReplyBack.j0 k a2 true a0_0 a0_1 l0_2 a1_0 a1_1 a1_2 l1_3 l1_4) else (w23_ReplyBack.j0 k a2 (decide ((a2.size : Int) > 500)) a0_0 a0_1 l0_2 a1_0 a1_1 a1_2 l1_3 l1_4))))) else (none))) = some r := h
 clear h
 obtain ⟨t560, A4, H⟩ := bs H
 try dsimp only at H
 by_cases c5 : t560 = true
 ·
  subst c5
  rw [if_pos rfl] at H
  have HC6 := Aside0.mk H
  clear H
  go_enter Tryz.func6, Tryz.ntmps6
  go_upto_region 3 with (first | ((with_reducible refine gate_dst (N := 3) rfl ?_); (try (refine gate_guard (by rfl) ?_; dsimp only)); refine bx (N := 3) #[.int .i64 a0_0, .int .i64 a0_1, .slice A0_2 l0_2.length c0_2] 33 ?_; intro gb558 hg w7 hbox hb; replace HO1_3 := Aside0.mk (Kd.V_below (Kd.V_elderB (uV HO1_3.out) gb558 (Nat.le_of_eq hg.symm)) hb); replace HO1_4 := Aside0.mk (Kd.V_below (Kd.V_elderB (uV HO1_4.out) gb558 (Nat.le_of_eq hg.symm)) hb); have BK558 := Aside0.mk (hbox); have GW558 := gw hg (uW HB.out); have GE558 := GW558; replace HB := cW HB hb; clear hb hbox hg) | ((with_reducible refine gate_dst (N := 4) rfl ?_); (try (refine gate_guard (by rfl) ?_; dsimp only)); refine bx (N := 4) #[.int .i64 a1_0, .int .i64 a1_1, .int .i64 a1_2, .slice A1_3 l1_3.length c1_3, .slice A1_4 l1_4.length c1_4] 36 ?_; intro gb559 hg w8 hbox hb; replace HO1_3 := Aside0.mk (Kd.V_below (Kd.V_elderB (uV HO1_3.out) gb559 (Nat.le_of_eq hg.symm)) hb); replace HO1_4 := Aside0.mk (Kd.V_below (Kd.V_elderB (uV HO1_4.out) gb559 (Nat.le_of_eq hg.symm)) hb); have BK559 := Aside0.mk (hbox); have GW559 := gw hg bl; have GE559 := GW559; replace HB := Aside0.mk (below_step bl hb); have NB558_559 := nl BK558 hg; have NB559_558 := nr BK558 hg; replace BK558 := cB BK558 hb; clear hb hbox hg) | (refine gL (some 17) rfl Tryz.func7 #[] ?_; (with_reducible refine (w23_alive.calls (hL := ld) k  true _ A4.out).mono ?_); rintro e w9 ⟨rfl, hb⟩; refine ⟨_, rfl, ?_⟩; replace HO1_3 := cV HO1_3 hb; replace HO1_4 := cV HO1_4 hb; replace BK558 := cB BK558 hb; replace BK559 := cB BK559 hb; replace HB := Aside0.mk (below_step bl hb); (try clear hb)))
  (try simp only [Act.put, List.setIfInBounds_toArray, List.set_cons_zero, List.set_cons_succ])
  go_cut [31] (fun v31 wc => ∃ (kq : Nat) (x31_5 : Bool), v31 = .bool x31_5 ∧ Aside0 (w23_ReplyBack.j0 kq a2 x31_5 a0_0 a0_1 l0_2 a1_0 a1_1 a1_2 l1_3 l1_4 = some r) ∧ Aside0 (kq ≤ k) ∧ Aside0 (Kd.V k60 60 wc w.heap.size (fun k_ => ((P1_3_ k_ ∨ P1_4_ k_) ∨ w.heap.size ≤ k_) ∧ k_ ≠ gb558 ∧ k_ ≠ gb559) (.slice A1_3 l1_3.length c1_3) l1_3) ∧ Aside0 (Kd.V k78 78 wc w.heap.size (fun k_ => ((P1_3_ k_ ∨ P1_4_ k_) ∨ w.heap.size ≤ k_) ∧ k_ ≠ gb558 ∧ k_ ≠ gb559) (.slice A1_4 l1_4.length c1_4) l1_4) ∧ Aside0 (wc.heap[gb558]? = some (.cells #[.int .i64 a0_0, .int .i64 a0_1, (.slice A0_2 l0_2.length c0_2)] 33 (0, 0))) ∧ Aside0 (wc.heap[gb559]? = some (.cells #[.int .i64 a1_0, .int .i64 a1_1, .int .i64 a1_2, (.slice A1_3 l1_3.length c1_3), (.slice A1_4 l1_4.length c1_4)] 36 (0, 0))) ∧ Aside0 (Below w.heap.size w wc))
  case first =>
   as_aux_lemma =>
   have H := HC6.out
   clear HC6
   obtain ⟨t561, A10, H⟩ := bs H
   try dsimp only at H
   by_cases c11 : t561 = true
   ·
    subst c11
    rw [if_pos rfl] at H
    have H' := Aside0.mk H
    clear H
    have hnb12 := NB558_559.out
    have hnc12 := NB559_558.out
    obtain ⟨hcz13_0, hcz13_1, hcz13_2, hfz13_0, hfz13_1, hfz13_2⟩ := z3 BK558
    go_wp2_with (first | (refine gL (some 21) rfl Tryz.func16 #[.slice A0_2 l0_2.length c0_2] ?_; (with_reducible refine (r08_Great.calls k _ _ l0_2 true _ ?side1 ?side2 A10.out).mono ?_); (case side1 => exact uC <| (Kd.C_below HR0_2.out HB.out)); (case side2 => exact HC0_2.out); rintro e w' ⟨rfl, ⟨nd, rfl⟩⟩; refine ⟨_, rfl, ?_⟩))
    go_meet
    case rel => exact ⟨_, (true), rs_, H', ⟨by first | omega | exact Nat.le_refl _⟩, ⟨by exact uV <| Kd.V_mono HO1_3.out (fun _ hk => ⟨hk.1.1, ⟨hk.1.2, hk.2⟩⟩)⟩, ⟨by exact uV <| Kd.V_mono HO1_4.out (fun _ hk => ⟨hk.1.1, ⟨hk.1.2, hk.2⟩⟩)⟩, ⟨uB BK558.out⟩, ⟨uB BK559.out⟩, ⟨bl⟩⟩
   ·
    replace c11 := Bool.eq_false_iff.mpr c11
    subst c11
    rw [if_neg (show ¬ (false = true) by decide)] at H
    obtain ⟨y562, hy562⟩ : ∃ y_ : List (S36), y_ = (([(⟨a1_0, a1_1, a1_2, l1_3, l1_4⟩ : S36)] : List (S36))) := ⟨_, rfl⟩
    replace H : ((r19_Much.f k y562).bind fun t565 => (if t565 = true then (w23_ReplyBack.j0 k a2 true a0_0 a0_1 l0_2 a1_0 a1_1 a1_2 l1_3 l1_4) else (w23_ReplyBack.j0 k a2 (decide ((a2.size : Int) > 500)) a0_0 a0_1 l0_2 a1_0 a1_1 a1_2 l1_3 l1_4))) = some r := by first | (rw [hy562]; with_reducible exact H) | (have H2_ := (Option.bind_some _ _).symm.trans H; rw [hy562]; with_reducible exact H2_) | (have H2_ := (Option.bind_some _ _).symm.trans H; with_reducible exact H2_) | with_reducible exact H | (rw [hy562]; exact H) | exact H
    have Ny562 := Aside0.mk hy562
    clear hy562
    obtain ⟨t565, A14, H⟩ := bs H
    try dsimp only at H
    by_cases c15 : t565 = true
    ·
     subst c15
     rw [if_pos rfl] at H
     have H' := Aside0.mk H
     clear H
     have hnb16 := NB558_559.out
     have hnc16 := NB559_558.out
     obtain ⟨hcz17_0, hcz17_1, hcz17_2, hfz17_0, hfz17_1, hfz17_2⟩ := z3 BK558
     go_wp2_with (first | (refine gL (some 21) rfl Tryz.func16 #[.slice A0_2 l0_2.length c0_2] ?_; (with_reducible refine (r08_Great.calls k _ _ l0_2 false _ ?side1 ?side2 A10.out).mono ?_); (case side1 => exact uC <| (Kd.C_below HR0_2.out HB.out)); (case side2 => exact HC0_2.out); rintro e w' ⟨rfl, ⟨nd, rfl⟩⟩; refine ⟨_, rfl, ?_⟩; obtain ⟨hcz18_0, hcz18_1, hcz18_2, hcz18_3, hcz18_4, hfz18_0, hfz18_1, hfz18_2, hfz18_3, hfz18_4⟩ := z5 BK559) | ((with_reducible refine gate_dst (N := 24) rfl ?_); (try (refine gate_guard (by rfl) ?_; dsimp only)); refine Kd.N_lit k36 _ 36 ?hg (N' := 24) ?hd (xs := ([(⟨a1_0, a1_1, a1_2, l1_3, l1_4⟩ : S36)] : List (S36))) (inner := [.int .i64 a1_0, .int .i64 a1_1, .int .i64 a1_2, .slice A1_3 l1_3.length c1_3, .slice A1_4 l1_4.length c1_4]) (ok := (fun k_ => ((P1_3_ k_ ∨ P1_4_ k_) ∨ w.heap.size ≤ k_) ∧ k_ ≠ gb558 ∧ k_ ≠ gb559)) (okp := (fun k_ => ((P1_3_ k_ ∨ P1_4_ k_) ∨ w.heap.size ≤ k_) ∧ k_ ≠ gb558 ∧ k_ ≠ gb559)) ?hr ?hp (fun _ hk => hk) ((show ∀ k_, w9.heap.size ≤ k_ → (fun k_ => ((P1_3_ k_ ∨ P1_4_ k_) ∨ w.heap.size ≤ k_) ∧ k_ ≠ gb558 ∧ k_ ≠ gb559) k_ from fun k_ hk => ⟨(.inr (Nat.le_trans (below_size bl) hk)), Kd.freshB (g := gb558) (o := .cells #[.int .i64 a0_0, .int .i64 a0_1, .slice A0_2 l0_2.length c0_2] 33 (0, 0)) (uB BK558.out) k_ hk, Kd.freshB (g := gb559) (o := .cells #[.int .i64 a1_0, .int .i64 a1_1, .int .i64 a1_2, .slice A1_3 l1_3.length c1_3, .slice A1_4 l1_4.length c1_4] 36 (0, 0)) (uB BK559.out) k_ hk⟩) _ (Nat.le_refl _)) (Below.refl _ _) (Nat.le_refl _) (by simp) ?_; (case hd => rfl); (case hg => rfl); (case hr => first | (go_simp; done) | (go_simp; rfl)); (case hp => exact (Reps.c5 (show Kd.FK k36 _ _ (⟨a1_0, a1_1, a1_2, l1_3, l1_4⟩ : S36) [.int .i64 a1_0, .int .i64 a1_1, .int .i64 a1_2, .slice A1_3 l1_3.length c1_3, .slice A1_4 l1_4.length c1_4] from (k36_mkF _ _ (⟨a1_0, a1_1, a1_2, l1_3, l1_4⟩ : S36) (Kd.V_reads' (Kd.V_mono (ok' := (fun k_ => ((P1_3_ k_ ∨ P1_4_ k_) ∨ w.heap.size ≤ k_) ∧ k_ ≠ gb558 ∧ k_ ≠ gb559)) (HO1_3.out) (fun k_ hk => ⟨hk.1.1, ⟨hk.1.2, hk.2⟩⟩))).2.1 (Kd.V_F (Kd.V_mono (ok' := (fun k_ => ((P1_3_ k_ ∨ P1_4_ k_) ∨ w.heap.size ≤ k_) ∧ k_ ≠ gb558 ∧ k_ ≠ gb559)) (HO1_3.out) (fun k_ hk => ⟨hk.1.1, ⟨hk.1.2, hk.2⟩⟩))) (Kd.V_reads' (Kd.V_mono (ok' := (fun k_ => ((P1_3_ k_ ∨ P1_4_ k_) ∨ w.heap.size ≤ k_) ∧ k_ ≠ gb558 ∧ k_ ≠ gb559)) (HO1_4.out) (fun k_ hk => ⟨hk.1.1, ⟨hk.1.2, hk.2⟩⟩))).2.1 (Kd.V_F (Kd.V_mono (ok' := (fun k_ => ((P1_3_ k_ ∨ P1_4_ k_) ∨ w.heap.size ≤ k_) ∧ k_ ≠ gb558 ∧ k_ ≠ gb559)) (HO1_4.out) (fun k_ hk => ⟨hk.1.1, ⟨hk.1.2, hk.2⟩⟩))))) (Reps.none _ _))); intro v563 w19 ho20 hb hg_ hnew_; clear hg_ hnew_; (first | rw [← Ny562.out] at ho20 | (simp only [Int.reduceToNat] at ho20; rw [← Ny562.out] at ho20)); replace HO1_3 := Aside0.mk (Kd.V_elder' (uV HO1_3.out) (Kd.N_base ho20) hb); replace HO1_4 := Aside0.mk (Kd.V_elder' (uV HO1_4.out) (Kd.N_base ho20) hb); have HO564 := Aside0.mk (Kd.N_lower ho20 (below_size bl)); replace BK558 := cB BK558 hb; replace BK559 := cB BK559 hb; replace HB := Aside0.mk (below_step bl hb); clear hb ho20; obtain ⟨Ao21, co21, eo21⟩ := Kd.N_slice HO564.out; subst eo21) | (go_at_call 17; (with_reducible refine (r19_Much.calls k _ _ y562 true _ ?side1 ?side2 A14.out).mono ?_); (case side1 => exact uC <| (Kd.N_reads' HO564.out).2.2); (case side2 => exact (Kd.N_reads' HO564.out).2.1); rintro e w' ⟨rfl, ⟨nd, rfl⟩⟩))
     go_meet
     case rel => exact ⟨_, (true), rs_, H', ⟨by first | omega | exact Nat.le_refl _⟩, ⟨by exact uV <| Kd.V_mono HO1_3.out (fun _ hk => ⟨hk.1.1.1, ⟨hk.1.1.2, hk.1.2⟩⟩)⟩, ⟨by exact uV <| Kd.V_mono HO1_4.out (fun _ hk => ⟨hk.1.1.1, ⟨hk.1.1.2, hk.1.2⟩⟩)⟩, ⟨uB BK558.out⟩, ⟨uB BK559.out⟩, ⟨bl⟩⟩
    ·
     replace c15 := Bool.eq_false_iff.mpr c15
     subst c15
     rw [if_neg (show ¬ (false = true) by decide)] at H
     have H' := Aside0.mk H
     clear H
     have hnb22 := NB558_559.out
     have hnc22 := NB559_558.out
     obtain ⟨hcz23_0, hcz23_1, hcz23_2, hfz23_0, hfz23_1, hfz23_2⟩ := z3 BK558
     go_wp2_with (first | (refine gL (some 21) rfl Tryz.func16 #[.slice A0_2 l0_2.length c0_2] ?_; (with_reducible refine (r08_Great.calls k _ _ l0_2 false _ ?side1 ?side2 A10.out).mono ?_); (case side1 => exact uC <| (Kd.C_below HR0_2.out HB.out)); (case side2 => exact HC0_2.out); rintro e w' ⟨rfl, ⟨nd, rfl⟩⟩; refine ⟨_, rfl, ?_⟩; obtain ⟨hcz24_0, hcz24_1, hcz24_2, hcz24_3, hcz24_4, hfz24_0, hfz24_1, hfz24_2, hfz24_3, hfz24_4⟩ := z5 BK559) | ((with_reducible refine gate_dst (N := 24) rfl ?_); (try (refine gate_guard (by rfl) ?_; dsimp only)); refine Kd.N_lit k36 _ 36 ?hg (N' := 24) ?hd (xs := ([(⟨a1_0, a1_1, a1_2, l1_3, l1_4⟩ : S36)] : List (S36))) (inner := [.int .i64 a1_0, .int .i64 a1_1, .int .i64 a1_2, .slice A1_3 l1_3.length c1_3, .slice A1_4 l1_4.length c1_4]) (ok := (fun k_ => ((P1_3_ k_ ∨ P1_4_ k_) ∨ w.heap.size ≤ k_) ∧ k_ ≠ gb558 ∧ k_ ≠ gb559)) (okp := (fun k_ => ((P1_3_ k_ ∨ P1_4_ k_) ∨ w.heap.size ≤ k_) ∧ k_ ≠ gb558 ∧ k_ ≠ gb559)) ?hr ?hp (fun _ hk => hk) ((show ∀ k_, w9.heap.size ≤ k_ → (fun k_ => ((P1_3_ k_ ∨ P1_4_ k_) ∨ w.heap.size ≤ k_) ∧ k_ ≠ gb558 ∧ k_ ≠ gb559) k_ from fun k_ hk => ⟨(.inr (Nat.le_trans (below_size bl) hk)), Kd.freshB (g := gb558) (o := .cells #[.int .i64 a0_0, .int .i64 a0_1, .slice A0_2 l0_2.length c0_2] 33 (0, 0)) (uB BK558.out) k_ hk, Kd.freshB (g := gb559) (o := .cells #[.int .i64 a1_0, .int .i64 a1_1, .int .i64 a1_2, .slice A1_3 l1_3.length c1_3, .slice A1_4 l1_4.length c1_4] 36 (0, 0)) (uB BK559.out) k_ hk⟩) _ (Nat.le_refl _)) (Below.refl _ _) (Nat.le_refl _) (by simp) ?_; (case hd => rfl); (case hg => rfl); (case hr => first | (go_simp; done) | (go_simp; rfl)); (case hp => exact (Reps.c5 (show Kd.FK k36 _ _ (⟨a1_0, a1_1, a1_2, l1_3, l1_4⟩ : S36) [.int .i64 a1_0, .int .i64 a1_1, .int .i64 a1_2, .slice A1_3 l1_3.length c1_3, .slice A1_4 l1_4.length c1_4] from (k36_mkF _ _ (⟨a1_0, a1_1, a1_2, l1_3, l1_4⟩ : S36) (Kd.V_reads' (Kd.V_mono (ok' := (fun k_ => ((P1_3_ k_ ∨ P1_4_ k_) ∨ w.heap.size ≤ k_) ∧ k_ ≠ gb558 ∧ k_ ≠ gb559)) (HO1_3.out) (fun k_ hk => ⟨hk.1.1, ⟨hk.1.2, hk.2⟩⟩))).2.1 (Kd.V_F (Kd.V_mono (ok' := (fun k_ => ((P1_3_ k_ ∨ P1_4_ k_) ∨ w.heap.size ≤ k_) ∧ k_ ≠ gb558 ∧ k_ ≠ gb559)) (HO1_3.out) (fun k_ hk => ⟨hk.1.1, ⟨hk.1.2, hk.2⟩⟩))) (Kd.V_reads' (Kd.V_mono (ok' := (fun k_ => ((P1_3_ k_ ∨ P1_4_ k_) ∨ w.heap.size ≤ k_) ∧ k_ ≠ gb558 ∧ k_ ≠ gb559)) (HO1_4.out) (fun k_ hk => ⟨hk.1.1, ⟨hk.1.2, hk.2⟩⟩))).2.1 (Kd.V_F (Kd.V_mono (ok' := (fun k_ => ((P1_3_ k_ ∨ P1_4_ k_) ∨ w.heap.size ≤ k_) ∧ k_ ≠ gb558 ∧ k_ ≠ gb559)) (HO1_4.out) (fun k_ hk => ⟨hk.1.1, ⟨hk.1.2, hk.2⟩⟩))))) (Reps.none _ _))); intro v563 w25 ho26 hb hg_ hnew_; clear hg_ hnew_; (first | rw [← Ny562.out] at ho26 | (simp only [Int.reduceToNat] at ho26; rw [← Ny562.out] at ho26)); replace HO1_3 := Aside0.mk (Kd.V_elder' (uV HO1_3.out) (Kd.N_base ho26) hb); replace HO1_4 := Aside0.mk (Kd.V_elder' (uV HO1_4.out) (Kd.N_base ho26) hb); have HO564 := Aside0.mk (Kd.N_lower ho26 (below_size bl)); replace BK558 := cB BK558 hb; replace BK559 := cB BK559 hb; replace HB := Aside0.mk (below_step bl hb); clear hb ho26; obtain ⟨Ao27, co27, eo27⟩ := Kd.N_slice HO564.out; subst eo27) | (go_at_call 17; (with_reducible refine (r19_Much.calls k _ _ y562 false _ ?side1 ?side2 A14.out).mono ?_); (case side1 => exact uC <| (Kd.N_reads' HO564.out).2.2); (case side2 => exact (Kd.N_reads' HO564.out).2.1); rintro e w' ⟨rfl, ⟨nd, rfl⟩⟩))
     go_meet
     case rel => exact ⟨_, (decide ((a2.size : Int) > 500)), rs_, H', ⟨by first | omega | exact Nat.le_refl _⟩, ⟨by exact uV <| Kd.V_mono HO1_3.out (fun _ hk => ⟨hk.1.1.1, ⟨hk.1.1.2, hk.1.2⟩⟩)⟩, ⟨by exact uV <| Kd.V_mono HO1_4.out (fun _ hk => ⟨hk.1.1.1, ⟨hk.1.1.2, hk.1.2⟩⟩)⟩, ⟨uB BK558.out⟩, ⟨uB BK559.out⟩, ⟨bl⟩⟩
  case rest =>
   as_aux_lemma =>
   clear HC6
   try clear c5
   obtain ⟨kq, x31_5, rfl, HA, HJ5, HO_560003, HO_560004, BK558, BK559, HB⟩ := hcut
   cases kq with
   | zero => exact absurd HA.out (by simp [w23_ReplyBack.j0])
   | succ kj5 =>
    have H := HA.out
    clear HA
    simp only [w23_ReplyBack.j0] at H
    by_cases c28 : x31_5 = true
    ·
     subst c28
     rw [if_pos rfl] at H
     obtain rfl := Option.some.inj H
     go_wp2
     go_ret
     exact ⟨re_, bl⟩
    ·
     replace c28 := Bool.eq_false_iff.mpr c28
     subst c28
     rw [if_neg (show ¬ (false = true) by decide)] at H
     have HC29 := Aside0.mk H
     clear H
     go_upto_region 5 with (fail)
     go_cut [39] (fun v39 wc => ∃ (kq : Nat) (x39_28 : Bool), v39 = .bool x39_28 ∧ Aside0 (w23_ReplyBack.j1 kq a2 x39_28 a0_0 a0_1 l0_2 a1_0 a1_1 a1_2 l1_3 l1_4 = some r) ∧ Aside0 (kq ≤ kj5) ∧ Aside0 (Kd.V k60 60 wc w.heap.size (fun k_ => ((P1_3_ k_ ∨ P1_4_ k_) ∨ w.heap.size ≤ k_) ∧ k_ ≠ gb558 ∧ k_ ≠ gb559) (.slice A1_3 l1_3.length c1_3) l1_3) ∧ Aside0 (Kd.V k78 78 wc w.heap.size (fun k_ => ((P1_3_ k_ ∨ P1_4_ k_) ∨ w.heap.size ≤ k_) ∧ k_ ≠ gb558 ∧ k_ ≠ gb559) (.slice A1_4 l1_4.length c1_4) l1_4) ∧ Aside0 (wc.heap[gb558]? = some (.cells #[.int .i64 a0_0, .int .i64 a0_1, (.slice A0_2 l0_2.length c0_2)] 33 (0, 0))) ∧ Aside0 (wc.heap[gb559]? = some (.cells #[.int .i64 a1_0, .int .i64 a1_1, .int .i64 a1_2, (.slice A1_3 l1_3.length c1_3), (.slice A1_4 l1_4.length c1_4)] 36 (0, 0))) ∧ Aside0 (Below w.heap.size w wc))
     case first =>
      as_aux_lemma =>
      have H := HC29.out
      clear HC29
      by_cases c30 : a0_1 ≥ 0
      ·
       rw [if_pos c30] at H
       have c30b0 : decide (0 ≤ a0_1) = true := decide_eq_true c30
       clear c30
       (first | rw [c30b0] | (simp only [i64_w, i32_w]; rw [c30b0]) | skip)
       obtain ⟨t566, A31, H⟩ := bs H
       try dsimp only at H
       have H' := Aside0.mk H
       clear H
       have hnb32 := NB558_559.out
       have hnc32 := NB559_558.out
       obtain ⟨hcz33_0, hcz33_1, hcz33_2, hfz33_0, hfz33_1, hfz33_2⟩ := z3 BK558
       go_wp2_with (first | (go_at_call 30; (with_reducible refine (r08_Right.calls kj5 _ _ l0_2 t566 _ ?side1 ?side2 A31.out).mono ?_); (case side1 => exact uC <| (Kd.C_below HR0_2.out HB.out)); (case side2 => exact HC0_2.out); rintro e w34 ⟨rfl, hb⟩; replace HO_560003 := cV HO_560003 hb; replace HO_560004 := cV HO_560004 hb; replace BK558 := cB BK558 hb; replace BK559 := cB BK559 hb; replace HB := Aside0.mk (below_step bl hb); (try clear hb)))
       go_meet
       case rel => exact ⟨_, (t566), rs_, H', ⟨by have := HJ5.out; first | omega | exact Nat.le_refl _⟩, ⟨uV HO_560003.out⟩, ⟨uV HO_560004.out⟩, ⟨uB BK558.out⟩, ⟨uB BK559.out⟩, ⟨bl⟩⟩
      ·
       rw [if_neg c30] at H
       have c30b0 : decide (0 ≤ a0_1) = false := decide_eq_false c30
       clear c30
       (first | rw [c30b0] | (simp only [i64_w, i32_w]; rw [c30b0]) | skip)
       have H' := Aside0.mk H
       clear H
       have hnb35 := NB558_559.out
       have hnc35 := NB559_558.out
       obtain ⟨hcz36_0, hcz36_1, hcz36_2, hfz36_0, hfz36_1, hfz36_2⟩ := z3 BK558
       go_wp2
       go_meet
       case rel => exact ⟨_, (false), rs_, H', ⟨by have := HJ5.out; first | omega | exact Nat.le_refl _⟩, ⟨uV HO_560003.out⟩, ⟨uV HO_560004.out⟩, ⟨uB BK558.out⟩, ⟨uB BK559.out⟩, ⟨bl⟩⟩
     case rest =>
      as_aux_lemma =>
      clear HC29
      try clear c1
      try clear c2
      try clear p2 p2
      try clear c5
      try clear c6
      try clear c7
      try clear c11
      try clear c12
      try clear c15
      try clear c16
      try clear c22
      try clear c28
      try clear hcz13_0 hcz13_1 hcz13_2 hfz13_0 hfz13_1 hfz13_2
      try clear hcz17_0 hcz17_1 hcz17_2 hfz17_0 hfz17_1 hfz17_2
      try clear hcz18_0 hcz18_1 hcz18_2 hcz18_3 hcz18_4 hfz18_0 hfz18_1 hfz18_2 hfz18_3 hfz18_4
      try clear hcz23_0 hcz23_1 hcz23_2 hfz23_0 hfz23_1 hfz23_2
      try clear hcz24_0 hcz24_1 hcz24_2 hcz24_3 hcz24_4 hfz24_0 hfz24_1 hfz24_2 hfz24_3 hfz24_4
      obtain ⟨kq, x39_28, rfl, HA, HJ28, HO_560003, HO_560004, BK558, BK559, HB⟩ := hcut
      cases kq with
      | zero => exact absurd HA.out (by simp [w23_ReplyBack.j1])
      | succ kj28 =>
       have H := HA.out
       clear HA
       simp only [w23_ReplyBack.j1] at H
       have HC37 := Aside0.mk H
       clear H
       go_upto_if 39 with (fail)
       go_cut [] (fun wc => ∃ (kq : Nat), Aside0 (w23_ReplyBack.j2 kq a2 a1_0 a1_1 a1_2 l1_3 l1_4 = some r) ∧ Aside0 (kq ≤ kj28) ∧ Aside0 (Kd.V k60 60 wc w.heap.size (fun k_ => ((P1_3_ k_ ∨ P1_4_ k_) ∨ w.heap.size ≤ k_) ∧ k_ ≠ gb558 ∧ k_ ≠ gb559) (.slice A1_3 l1_3.length c1_3) l1_3) ∧ Aside0 (Kd.V k78 78 wc w.heap.size (fun k_ => ((P1_3_ k_ ∨ P1_4_ k_) ∨ w.heap.size ≤ k_) ∧ k_ ≠ gb558 ∧ k_ ≠ gb559) (.slice A1_4 l1_4.length c1_4) l1_4) ∧ Aside0 (wc.heap[gb558]? = some (.cells #[.int .i64 a0_0, .int .i64 a0_1, (.slice A0_2 l0_2.length c0_2)] 33 (0, 0))) ∧ Aside0 (wc.heap[gb559]? = some (.cells #[.int .i64 a1_0, .int .i64 a1_1, .int .i64 a1_2, (.slice A1_3 l1_3.length c1_3), (.slice A1_4 l1_4.length c1_4)] 36 (0, 0))) ∧ Aside0 (Below w.heap.size w wc))
       case first =>
        as_aux_lemma =>
        have H := HC37.out
        clear HC37
        by_cases c38 : x39_28 = true
        ·
         subst c38
         rw [if_pos rfl] at H
         obtain ⟨t567, A39, H⟩ := bs H
         try dsimp only at H
         obtain ⟨⟨t568, t569, t570, t573⟩, A40, H⟩ := bs H
         try dsimp only at H
         by_cases c41 : t573 = 0
         ·
          rw [if_pos c41] at H
          have c41b0 : (t573 == 0) = true := beq_iff_eq.mpr c41
          have c41b1 : (t573 != 0) = false := bne_eq_false_iff_eq.mpr c41
          clear c41
          (first | rw [c41b0] | (simp only [i64_w, i32_w]; rw [c41b0]) | skip)
          by_cases c42 : t568 = 0
          ·
           rw [if_pos c42] at H
           have c42b0 : (t568 == 0) = true := beq_iff_eq.mpr c42
           have c42b1 : (t568 != 0) = false := bne_eq_false_iff_eq.mpr c42
           clear c42
           by_cases c43 : t569 = a0_1
           ·
            rw [if_pos c43] at H
            have c43b0 : (t569 == a0_1) = true := beq_iff_eq.mpr c43
            have c43b1 : (t569 != a0_1) = false := bne_eq_false_iff_eq.mpr c43
            clear c43
            obtain ⟨t575, A44, H⟩ := bs H
            try dsimp only at H
            by_cases c45 : t575 = true
            ·
             subst c45
             rw [if_pos rfl] at H
             have H' := Aside0.mk H
             clear H
             have hnb46 := NB558_559.out
             have hnc46 := NB559_558.out
             have hcz47_0 : wc.cell? ⟨gb558, 0, none⟩ = some (.int .i64 a0_0) := (blk_cell BK558.out 0).trans rfl
             have hcz47_1 : wc.cell? ⟨gb558, 1, none⟩ = some (.int .i64 a0_1) := (blk_cell BK558.out 1).trans rfl
             have hcz47_2 : wc.cell? ⟨gb558, 2, none⟩ = some (.slice A0_2 l0_2.length c0_2) := (blk_cell BK558.out 2).trans rfl
             have hfz47_0 := blk_frozen BK558.out 0
             have hfz47_1 := blk_frozen BK558.out 1
             have hfz47_2 := blk_frozen BK558.out 2
             go_wp2_with (first | (refine gL (some 42) rfl Tryz.func18 #[.agg #[.int .i64 a0_0, .int .i64 a0_1, .slice A0_2 l0_2.length c0_2]] ?_; (with_reducible refine (reply_Rows.calls (hL := ld) kj28 a0_0 a0_1 _ _ l0_2 t567 _ ?side1 ?side2 A39.out).mono ?_); (case side1 => exact uC <| (Kd.C_below HR0_2.out HB.out)); (case side2 => exact HC0_2.out); rintro e w48 ⟨rfl, hb⟩; refine ⟨_, rfl, ?_⟩; replace HO_560003 := cV HO_560003 hb; replace HO_560004 := cV HO_560004 hb; replace BK558 := cB BK558 hb; replace BK559 := cB BK559 hb; replace HB := Aside0.mk (below_step bl hb); (try clear hb)) | (refine gL (some 43) rfl Tryz.func24 #[.string t567] ?_; (with_reducible refine (reply_ReadRows.calls (hL := ld) kj28 t567 t568 t569 t570 t573 _ A40.out).mono ?_); rintro e w49 ⟨v571, rfl, ho0, hb⟩; refine ⟨_, rfl, ?_⟩; replace HO_560003 := Aside0.mk (Kd.V_elder' (uV HO_560003.out) (Kd.R_base ho0) hb); replace HO_560004 := Aside0.mk (Kd.V_elder' (uV HO_560004.out) (Kd.R_base ho0) hb); have HO572 := Aside0.mk (Kd.R_lower (Kd.R_newM (M := fun k_ => (w.heap.size ≤ k_)) ho0 (below_size bl) (fun k_ h_ => h_)) (below_size bl)); replace BK558 := cB BK558 hb; replace BK559 := cB BK559 hb; replace HB := Aside0.mk (below_step bl hb); (try clear hb); (try clear ho0)) | ((with_reducible refine gate_dst (N := 7) rfl ?_); (try (refine gate_guard (by rfl) ?_; dsimp only)); refine bx (N := 7) #[.int .i64 0, .int .i64 0, .slice none 0 0] 33 ?_; intro gb574 hg w50 hbox hb; replace HO_560003 := Aside0.mk (Kd.V_below (Kd.V_elderB (uV HO_560003.out) gb574 (Nat.le_of_eq hg.symm)) hb); replace HO_560004 := Aside0.mk (Kd.V_below (Kd.V_elderB (uV HO_560004.out) gb574 (Nat.le_of_eq hg.symm)) hb); replace HO572 := cR HO572 hb; have BK574 := Aside0.mk (hbox); have GW574 := gw hg bl; have GE574 := GW574; replace HB := Aside0.mk (below_step bl hb); have NB558_574 := nl BK558 hg; have NB574_558 := nr BK558 hg; replace BK558 := cB BK558 hb; have NB559_574 := nl BK559 hg; have NB574_559 := nr BK559 hg; replace BK559 := cB BK559 hb; clear hb hbox hg; have hnb51 := NB574_558.out; have hnc51 := NB558_574.out; have hnb52 := NB574_559.out; have hnc52 := NB559_574.out; obtain ⟨hcz53_0, hcz53_1, hcz53_2, hfz53_0, hfz53_1, hfz53_2⟩ := z3 BK574; obtain ⟨Ao54, co54, eo54⟩ := Kd.R_slice HO572.out; subst eo54; obtain ⟨hcz55_0, hcz55_1, hcz55_2, hfz55_0, hfz55_1, hfz55_2⟩ := z3 BK558) | (go_at_call 31; (with_reducible refine (r08_Same.calls kj28 _ _ t570 _ _ l0_2 true _ ?side1 ?side2 ?side3 ?side4 A44.out).mono ?_); (case side1 => refine (Kd.R_reads' (e := 60) (base := w.heap.size) (ok := fun k_ => (((w.heap.size ≤ k_)) ∧ True)) (n := t570.length) (c := co54) ?_).2.2; exact (by exact (Kd.R_mono (fR_ (Kd.R_types HO572.out BK574.out (by decide)) fun _ h => h.2) (fun _ h_ => h_.1)))); (case side2 => exact (Kd.R_reads' HO572.out).2.1); (case side3 => exact Kd.C_below HR0_2.out bl); (case side4 => exact HC0_2.out); rintro e w' ⟨rfl, ⟨nd, rfl⟩⟩))
             go_meet
             case rel => exact ⟨_, H', ⟨by have := HJ5.out; have := HJ28.out; first | omega | exact Nat.le_refl _⟩, ⟨by exact Kd.V_mono (fV_ (Kd.V_mono HO_560003.out (fun k_ hk => (⟨hk, hk.2⟩ : _ ∧ k_ ≠ gb574))) fun _ h => h.2) (fun _ hk => ⟨hk.1.1.1.1, ⟨hk.1.1.1.2.1, hk.1.1.1.2.2⟩⟩)⟩, ⟨by exact Kd.V_mono (fV_ (Kd.V_mono HO_560004.out (fun k_ hk => (⟨hk, hk.2⟩ : _ ∧ k_ ≠ gb574))) fun _ h => h.2) (fun _ hk => ⟨hk.1.1.1.1, ⟨hk.1.1.1.2.1, hk.1.1.1.2.2⟩⟩)⟩, ⟨fF BK558.out NB558_574⟩, ⟨fF BK559.out NB559_574⟩, ⟨bl⟩⟩
            ·
             replace c45 := Bool.eq_false_iff.mpr c45
             subst c45
             rw [if_neg (show ¬ (false = true) by decide)] at H
             exact absurd H (by simp)
           ·
            rw [if_neg c43] at H
            exact absurd H (by simp)
          ·
           rw [if_neg c42] at H
           exact absurd H (by simp)
         ·
          rw [if_neg c41] at H
          exact absurd H (by simp)
        ·
         replace c38 := Bool.eq_false_iff.mpr c38
         subst c38
         rw [if_neg (show ¬ (false = true) by decide)] at H
         have H' := Aside0.mk H
         clear H
         go_wp2
         go_meet
         case rel => exact ⟨_, H', ⟨by have := HJ5.out; have := HJ28.out; first | omega | exact Nat.le_refl _⟩, ⟨uV HO_560003.out⟩, ⟨uV HO_560004.out⟩, ⟨uB BK558.out⟩, ⟨uB BK559.out⟩, ⟨bl⟩⟩
       case rest =>
        as_aux_lemma =>
        clear HC37
        try clear c1
        try clear c2
        try clear p2 p2
        try clear c3
        try clear c5
        try clear c6
        try clear c7
        try clear c11
        try clear c12
        try clear c15
        try clear c16
        try clear c22
        try clear c28
        try clear c30
        try clear c30b0
        try clear c32
        try clear c35
        try clear hcz13_0 hcz13_1 hcz13_2 hfz13_0 hfz13_1 hfz13_2
        try clear hcz17_0 hcz17_1 hcz17_2 hfz17_0 hfz17_1 hfz17_2
        try clear hcz18_0 hcz18_1 hcz18_2 hcz18_3 hcz18_4 hfz18_0 hfz18_1 hfz18_2 hfz18_3 hfz18_4
        try clear hcz23_0 hcz23_1 hcz23_2 hfz23_0 hfz23_1 hfz23_2
        try clear hcz24_0 hcz24_1 hcz24_2 hcz24_3 hcz24_4 hfz24_0 hfz24_1 hfz24_2 hfz24_3 hfz24_4
        try clear hcz33_0 hcz33_1 hcz33_2 hfz33_0 hfz33_1 hfz33_2
        try clear hcz36_0 hcz36_1 hcz36_2 hfz36_0 hfz36_1 hfz36_2
        obtain ⟨kq, HA, HJ36, HO_560003, HO_560004, BK558, BK559, HB⟩ := hcut
        cases kq with
        | zero => exact absurd HA.out (by simp [w23_ReplyBack.j2])
        | succ kj36 =>
         have H := HA.out
         clear HA
         simp only [w23_ReplyBack.j2] at H
         have HC56 := Aside0.mk H
         clear H
         go_upto_region 9 with (fail)
         go_cut [117] (fun v117 wc => ∃ (kq : Nat) (x117_55 : Bool), v117 = .bool x117_55 ∧ Aside0 (w23_ReplyBack.j3 kq a2 x117_55 a1_0 a1_1 a1_2 l1_3 l1_4 = some r) ∧ Aside0 (kq ≤ kj36) ∧ Aside0 (Kd.V k60 60 wc w.heap.size (fun k_ => ((P1_3_ k_ ∨ P1_4_ k_) ∨ w.heap.size ≤ k_) ∧ k_ ≠ gb558 ∧ k_ ≠ gb559) (.slice A1_3 l1_3.length c1_3) l1_3) ∧ Aside0 (Kd.V k78 78 wc w.heap.size (fun k_ => ((P1_3_ k_ ∨ P1_4_ k_) ∨ w.heap.size ≤ k_) ∧ k_ ≠ gb558 ∧ k_ ≠ gb559) (.slice A1_4 l1_4.length c1_4) l1_4) ∧ Aside0 (wc.heap[gb558]? = some (.cells #[.int .i64 a0_0, .int .i64 a0_1, (.slice A0_2 l0_2.length c0_2)] 33 (0, 0))) ∧ Aside0 (wc.heap[gb559]? = some (.cells #[.int .i64 a1_0, .int .i64 a1_1, .int .i64 a1_2, (.slice A1_3 l1_3.length c1_3), (.slice A1_4 l1_4.length c1_4)] 36 (0, 0))) ∧ Aside0 (Below w.heap.size w wc))
         case first =>
          as_aux_lemma =>
          have H := HC56.out
          clear HC56
          by_cases c57 : a1_2 ≥ 0
          ·
           rw [if_pos c57] at H
           have c57b0 : decide (0 ≤ a1_2) = true := decide_eq_true c57
           clear c57
           (first | rw [c57b0] | (simp only [i64_w, i32_w]; rw [c57b0]) | skip)
           by_cases c58 : a1_1 ≥ 0
           ·
            rw [if_pos c58] at H
            have c58b0 : decide (0 ≤ a1_1) = true := decide_eq_true c58
            clear c58
            by_cases c59 : a1_1 < 2147483648
            ·
             rw [if_pos c59] at H
             have c59b0 : decide (a1_1 < 2147483648) = true := decide_eq_true c59
             clear c59
             obtain ⟨t576, A60, H⟩ := bs H
             try dsimp only at H
             by_cases c61 : t576 = true
             ·
              subst c61
              rw [if_pos rfl] at H
              obtain ⟨t577, A62, H⟩ := bs H
              try dsimp only at H
              by_cases c63 : t577 = true
              ·
               subst c63
               rw [if_pos rfl] at H
               by_cases c64 : a1_0 = 2
               ·
                rw [if_pos c64] at H
                have c64b0 : (a1_0 == 2) = true := beq_iff_eq.mpr c64
                have c64b1 : (a1_0 != 2) = false := bne_eq_false_iff_eq.mpr c64
                clear c64
                by_cases c65 : (l1_3.length : Int) = 0
                ·
                 rw [if_pos c65] at H
                 have c65b0 : ((l1_3.length : Int) == 0) = true := beq_iff_eq.mpr c65
                 have c65b1 : ((l1_3.length : Int) != 0) = false := bne_eq_false_iff_eq.mpr c65
                 clear c65
                 have H' := Aside0.mk H
                 clear H
                 have hnb66 := NB559_558.out
                 have hnc66 := NB558_559.out
                 have hcz67_0 : wc.cell? ⟨gb559, 0, none⟩ = some (.int .i64 a1_0) := (blk_cell BK559.out 0).trans rfl
                 have hcz67_1 : wc.cell? ⟨gb559, 1, none⟩ = some (.int .i64 a1_1) := (blk_cell BK559.out 1).trans rfl
                 have hcz67_2 : wc.cell? ⟨gb559, 2, none⟩ = some (.int .i64 a1_2) := (blk_cell BK559.out 2).trans rfl
                 have hcz67_3 : wc.cell? ⟨gb559, 3, none⟩ = some (.slice A1_3 l1_3.length c1_3) := (blk_cell BK559.out 3).trans rfl
                 have hcz67_4 : wc.cell? ⟨gb559, 4, none⟩ = some (.slice A1_4 l1_4.length c1_4) := (blk_cell BK559.out 4).trans rfl
                 have hfz67_0 := blk_frozen BK559.out 0
                 have hfz67_1 := blk_frozen BK559.out 1
                 have hfz67_2 := blk_frozen BK559.out 2
                 have hfz67_3 := blk_frozen BK559.out 3
                 have hfz67_4 := blk_frozen BK559.out 4
                 go_wp2_with (first | (go_at_call 30; (with_reducible refine (r08_Right.calls kj36 _ _ l1_3 true _ ?side1 ?side2 A60.out).mono ?_); (case side1 => exact uC <| (Kd.V_reads' HO_560003.out).2.2); (case side2 => exact (Kd.V_reads' HO_560003.out).2.1); rintro e w68 ⟨rfl, hb⟩; replace HO_560003 := cV HO_560003 hb; replace HO_560004 := cV HO_560004 hb; replace BK558 := cB BK558 hb; replace BK559 := cB BK559 hb; replace HB := Aside0.mk (below_step bl hb); (try clear hb); obtain ⟨hcz69_0, hcz69_1, hcz69_2, hcz69_3, hcz69_4, hfz69_0, hfz69_1, hfz69_2, hfz69_3, hfz69_4⟩ := z5 BK559) | (go_at_call 32; (with_reducible refine (r09_Right.calls kj36 _ _ l1_4 true _ ?side1 ?side2 A62.out).mono ?_); (case side1 => exact uC <| (Kd.V_reads' HO_560004.out).2.2); (case side2 => exact (Kd.V_reads' HO_560004.out).2.1); rintro e w70 ⟨rfl, hb⟩; replace HO_560003 := cV HO_560003 hb; replace HO_560004 := cV HO_560004 hb; replace BK558 := cB BK558 hb; replace BK559 := cB BK559 hb; replace HB := Aside0.mk (below_step bl hb); (try clear hb); obtain ⟨hcz71_0, hcz71_1, hcz71_2, hcz71_3, hcz71_4, hfz71_0, hfz71_1, hfz71_2, hfz71_3, hfz71_4⟩ := z5 BK559))
                 go_meet
                 case rel => exact ⟨_, (true), rs_, H', ⟨by have := HJ5.out; have := HJ28.out; have := HJ36.out; first | omega | exact Nat.le_refl _⟩, ⟨uV HO_560003.out⟩, ⟨uV HO_560004.out⟩, ⟨uB BK558.out⟩, ⟨uB BK559.out⟩, ⟨bl⟩⟩
                ·
                 rw [if_neg c65] at H
                 have c65b0 : ((l1_3.length : Int) == 0) = false := beq_eq_false_iff_ne.mpr c65
                 have c65b1 : ((l1_3.length : Int) != 0) = true := bne_iff_ne.mpr c65
                 have c65b2 : ¬ (l1_3 = []) := fun h_ => c65 (by rw [h_]; rfl)
                 by_cases c72 : a1_0 = 1
                 ·
                  rw [if_pos c72] at H
                  have c72b0 : (a1_0 == 1) = true := beq_iff_eq.mpr c72
                  have c72b1 : (a1_0 != 1) = false := bne_eq_false_iff_eq.mpr c72
                  clear c72
                  have H' := Aside0.mk H
                  clear H
                  have hnb73 := NB559_558.out
                  have hnc73 := NB558_559.out
                  have hcz74_0 : wc.cell? ⟨gb559, 0, none⟩ = some (.int .i64 a1_0) := (blk_cell BK559.out 0).trans rfl
                  have hcz74_1 : wc.cell? ⟨gb559, 1, none⟩ = some (.int .i64 a1_1) := (blk_cell BK559.out 1).trans rfl
                  have hcz74_2 : wc.cell? ⟨gb559, 2, none⟩ = some (.int .i64 a1_2) := (blk_cell BK559.out 2).trans rfl
                  have hcz74_3 : wc.cell? ⟨gb559, 3, none⟩ = some (.slice A1_3 l1_3.length c1_3) := (blk_cell BK559.out 3).trans rfl
                  have hcz74_4 : wc.cell? ⟨gb559, 4, none⟩ = some (.slice A1_4 l1_4.length c1_4) := (blk_cell BK559.out 4).trans rfl
                  have hfz74_0 := blk_frozen BK559.out 0
                  have hfz74_1 := blk_frozen BK559.out 1
                  have hfz74_2 := blk_frozen BK559.out 2
                  have hfz74_3 := blk_frozen BK559.out 3
                  have hfz74_4 := blk_frozen BK559.out 4
                  go_wp2_with (first | (go_at_call 30; (with_reducible refine (r08_Right.calls kj36 _ _ l1_3 true _ ?side1 ?side2 A60.out).mono ?_); (case side1 => exact uC <| (Kd.V_reads' HO_560003.out).2.2); (case side2 => exact (Kd.V_reads' HO_560003.out).2.1); rintro e w75 ⟨rfl, hb⟩; replace HO_560003 := cV HO_560003 hb; replace HO_560004 := cV HO_560004 hb; replace BK558 := cB BK558 hb; replace BK559 := cB BK559 hb; replace HB := Aside0.mk (below_step bl hb); (try clear hb); obtain ⟨hcz76_0, hcz76_1, hcz76_2, hcz76_3, hcz76_4, hfz76_0, hfz76_1, hfz76_2, hfz76_3, hfz76_4⟩ := z5 BK559) | (go_at_call 32; (with_reducible refine (r09_Right.calls kj36 _ _ l1_4 true _ ?side1 ?side2 A62.out).mono ?_); (case side1 => exact uC <| (Kd.V_reads' HO_560004.out).2.2); (case side2 => exact (Kd.V_reads' HO_560004.out).2.1); rintro e w77 ⟨rfl, hb⟩; replace HO_560003 := cV HO_560003 hb; replace HO_560004 := cV HO_560004 hb; replace BK558 := cB BK558 hb; replace BK559 := cB BK559 hb; replace HB := Aside0.mk (below_step bl hb); (try clear hb); obtain ⟨hcz78_0, hcz78_1, hcz78_2, hcz78_3, hcz78_4, hfz78_0, hfz78_1, hfz78_2, hfz78_3, hfz78_4⟩ := z5 BK559))
                  go_meet
                  case rel => exact ⟨_, (((l1_4.length : Int) == 0)), rs_, H', ⟨by have := HJ5.out; have := HJ28.out; have := HJ36.out; first | omega | exact Nat.le_refl _⟩, ⟨uV HO_560003.out⟩, ⟨uV HO_560004.out⟩, ⟨uB BK558.out⟩, ⟨uB BK559.out⟩, ⟨bl⟩⟩
                 ·
                  rw [if_neg c72] at H
                  have c72b0 : (a1_0 == 1) = false := beq_eq_false_iff_ne.mpr c72
                  have c72b1 : (a1_0 != 1) = true := bne_iff_ne.mpr c72
                  by_cases c79 : a1_0 = 3
                  ·
                   rw [if_pos c79] at H
                   have c79b0 : (a1_0 == 3) = true := beq_iff_eq.mpr c79
                   have c79b1 : (a1_0 != 3) = false := bne_eq_false_iff_eq.mpr c79
                   clear c79
                   have H' := Aside0.mk H
                   clear H
                   have hnb80 := NB559_558.out
                   have hnc80 := NB558_559.out
                   have hcz81_0 : wc.cell? ⟨gb559, 0, none⟩ = some (.int .i64 a1_0) := (blk_cell BK559.out 0).trans rfl
                   have hcz81_1 : wc.cell? ⟨gb559, 1, none⟩ = some (.int .i64 a1_1) := (blk_cell BK559.out 1).trans rfl
                   have hcz81_2 : wc.cell? ⟨gb559, 2, none⟩ = some (.int .i64 a1_2) := (blk_cell BK559.out 2).trans rfl
                   have hcz81_3 : wc.cell? ⟨gb559, 3, none⟩ = some (.slice A1_3 l1_3.length c1_3) := (blk_cell BK559.out 3).trans rfl
                   have hcz81_4 : wc.cell? ⟨gb559, 4, none⟩ = some (.slice A1_4 l1_4.length c1_4) := (blk_cell BK559.out 4).trans rfl
                   have hfz81_0 := blk_frozen BK559.out 0
                   have hfz81_1 := blk_frozen BK559.out 1
                   have hfz81_2 := blk_frozen BK559.out 2
                   have hfz81_3 := blk_frozen BK559.out 3
                   have hfz81_4 := blk_frozen BK559.out 4
                   go_wp2_with (first | (go_at_call 30; (with_reducible refine (r08_Right.calls kj36 _ _ l1_3 true _ ?side1 ?side2 A60.out).mono ?_); (case side1 => exact uC <| (Kd.V_reads' HO_560003.out).2.2); (case side2 => exact (Kd.V_reads' HO_560003.out).2.1); rintro e w82 ⟨rfl, hb⟩; replace HO_560003 := cV HO_560003 hb; replace HO_560004 := cV HO_560004 hb; replace BK558 := cB BK558 hb; replace BK559 := cB BK559 hb; replace HB := Aside0.mk (below_step bl hb); (try clear hb); obtain ⟨hcz83_0, hcz83_1, hcz83_2, hcz83_3, hcz83_4, hfz83_0, hfz83_1, hfz83_2, hfz83_3, hfz83_4⟩ := z5 BK559) | (go_at_call 32; (with_reducible refine (r09_Right.calls kj36 _ _ l1_4 true _ ?side1 ?side2 A62.out).mono ?_); (case side1 => exact uC <| (Kd.V_reads' HO_560004.out).2.2); (case side2 => exact (Kd.V_reads' HO_560004.out).2.1); rintro e w84 ⟨rfl, hb⟩; replace HO_560003 := cV HO_560003 hb; replace HO_560004 := cV HO_560004 hb; replace BK558 := cB BK558 hb; replace BK559 := cB BK559 hb; replace HB := Aside0.mk (below_step bl hb); (try clear hb); obtain ⟨hcz85_0, hcz85_1, hcz85_2, hcz85_3, hcz85_4, hfz85_0, hfz85_1, hfz85_2, hfz85_3, hfz85_4⟩ := z5 BK559))
                   go_meet
                   case rel => exact ⟨_, (((l1_4.length : Int) == 0)), rs_, H', ⟨by have := HJ5.out; have := HJ28.out; have := HJ36.out; first | omega | exact Nat.le_refl _⟩, ⟨uV HO_560003.out⟩, ⟨uV HO_560004.out⟩, ⟨uB BK558.out⟩, ⟨uB BK559.out⟩, ⟨bl⟩⟩
                  ·
                   rw [if_neg c79] at H
                   have c79b0 : (a1_0 == 3) = false := beq_eq_false_iff_ne.mpr c79
                   have c79b1 : (a1_0 != 3) = true := bne_iff_ne.mpr c79
                   have H' := Aside0.mk H
                   clear H
                   have hnb86 := NB559_558.out
                   have hnc86 := NB558_559.out
                   have hcz87_0 : wc.cell? ⟨gb559, 0, none⟩ = some (.int .i64 a1_0) := (blk_cell BK559.out 0).trans rfl
                   have hcz87_1 : wc.cell? ⟨gb559, 1, none⟩ = some (.int .i64 a1_1) := (blk_cell BK559.out 1).trans rfl
                   have hcz87_2 : wc.cell? ⟨gb559, 2, none⟩ = some (.int .i64 a1_2) := (blk_cell BK559.out 2).trans rfl
                   have hcz87_3 : wc.cell? ⟨gb559, 3, none⟩ = some (.slice A1_3 l1_3.length c1_3) := (blk_cell BK559.out 3).trans rfl
                   have hcz87_4 : wc.cell? ⟨gb559, 4, none⟩ = some (.slice A1_4 l1_4.length c1_4) := (blk_cell BK559.out 4).trans rfl
                   have hfz87_0 := blk_frozen BK559.out 0
                   have hfz87_1 := blk_frozen BK559.out 1
                   have hfz87_2 := blk_frozen BK559.out 2
                   have hfz87_3 := blk_frozen BK559.out 3
                   have hfz87_4 := blk_frozen BK559.out 4
                   go_wp2_with (first | (go_at_call 30; (with_reducible refine (r08_Right.calls kj36 _ _ l1_3 true _ ?side1 ?side2 A60.out).mono ?_); (case side1 => exact uC <| (Kd.V_reads' HO_560003.out).2.2); (case side2 => exact (Kd.V_reads' HO_560003.out).2.1); rintro e w88 ⟨rfl, hb⟩; replace HO_560003 := cV HO_560003 hb; replace HO_560004 := cV HO_560004 hb; replace BK558 := cB BK558 hb; replace BK559 := cB BK559 hb; replace HB := Aside0.mk (below_step bl hb); (try clear hb); obtain ⟨hcz89_0, hcz89_1, hcz89_2, hcz89_3, hcz89_4, hfz89_0, hfz89_1, hfz89_2, hfz89_3, hfz89_4⟩ := z5 BK559) | (go_at_call 32; (with_reducible refine (r09_Right.calls kj36 _ _ l1_4 true _ ?side1 ?side2 A62.out).mono ?_); (case side1 => exact uC <| (Kd.V_reads' HO_560004.out).2.2); (case side2 => exact (Kd.V_reads' HO_560004.out).2.1); rintro e w90 ⟨rfl, hb⟩; replace HO_560003 := cV HO_560003 hb; replace HO_560004 := cV HO_560004 hb; replace BK558 := cB BK558 hb; replace BK559 := cB BK559 hb; replace HB := Aside0.mk (below_step bl hb); (try clear hb); obtain ⟨hcz91_0, hcz91_1, hcz91_2, hcz91_3, hcz91_4, hfz91_0, hfz91_1, hfz91_2, hfz91_3, hfz91_4⟩ := z5 BK559))
                   go_meet
                   case rel => exact ⟨_, (false), rs_, H', ⟨by have := HJ5.out; have := HJ28.out; have := HJ36.out; first | omega | exact Nat.le_refl _⟩, ⟨uV HO_560003.out⟩, ⟨uV HO_560004.out⟩, ⟨uB BK558.out⟩, ⟨uB BK559.out⟩, ⟨bl⟩⟩
               ·
                rw [if_neg c64] at H
                have c64b0 : (a1_0 == 2) = false := beq_eq_false_iff_ne.mpr c64
                have c64b1 : (a1_0 != 2) = true := bne_iff_ne.mpr c64
                by_cases c92 : a1_0 = 1
                ·
                 rw [if_pos c92] at H
                 have c92b0 : (a1_0 == 1) = true := beq_iff_eq.mpr c92
                 have c92b1 : (a1_0 != 1) = false := bne_eq_false_iff_eq.mpr c92
                 clear c92
                 have H' := Aside0.mk H
                 clear H
                 have hnb93 := NB559_558.out
                 have hnc93 := NB558_559.out
                 have hcz94_0 : wc.cell? ⟨gb559, 0, none⟩ = some (.int .i64 a1_0) := (blk_cell BK559.out 0).trans rfl
                 have hcz94_1 : wc.cell? ⟨gb559, 1, none⟩ = some (.int .i64 a1_1) := (blk_cell BK559.out 1).trans rfl
                 have hcz94_2 : wc.cell? ⟨gb559, 2, none⟩ = some (.int .i64 a1_2) := (blk_cell BK559.out 2).trans rfl
                 have hcz94_3 : wc.cell? ⟨gb559, 3, none⟩ = some (.slice A1_3 l1_3.length c1_3) := (blk_cell BK559.out 3).trans rfl
                 have hcz94_4 : wc.cell? ⟨gb559, 4, none⟩ = some (.slice A1_4 l1_4.length c1_4) := (blk_cell BK559.out 4).trans rfl
                 have hfz94_0 := blk_frozen BK559.out 0
                 have hfz94_1 := blk_frozen BK559.out 1
                 have hfz94_2 := blk_frozen BK559.out 2
                 have hfz94_3 := blk_frozen BK559.out 3
                 have hfz94_4 := blk_frozen BK559.out 4
                 go_wp2_with (first | (go_at_call 30; (with_reducible refine (r08_Right.calls kj36 _ _ l1_3 true _ ?side1 ?side2 A60.out).mono ?_); (case side1 => exact uC <| (Kd.V_reads' HO_560003.out).2.2); (case side2 => exact (Kd.V_reads' HO_560003.out).2.1); rintro e w95 ⟨rfl, hb⟩; replace HO_560003 := cV HO_560003 hb; replace HO_560004 := cV HO_560004 hb; replace BK558 := cB BK558 hb; replace BK559 := cB BK559 hb; replace HB := Aside0.mk (below_step bl hb); (try clear hb); obtain ⟨hcz96_0, hcz96_1, hcz96_2, hcz96_3, hcz96_4, hfz96_0, hfz96_1, hfz96_2, hfz96_3, hfz96_4⟩ := z5 BK559) | (go_at_call 32; (with_reducible refine (r09_Right.calls kj36 _ _ l1_4 true _ ?side1 ?side2 A62.out).mono ?_); (case side1 => exact uC <| (Kd.V_reads' HO_560004.out).2.2); (case side2 => exact (Kd.V_reads' HO_560004.out).2.1); rintro e w97 ⟨rfl, hb⟩; replace HO_560003 := cV HO_560003 hb; replace HO_560004 := cV HO_560004 hb; replace BK558 := cB BK558 hb; replace BK559 := cB BK559 hb; replace HB := Aside0.mk (below_step bl hb); (try clear hb); obtain ⟨hcz98_0, hcz98_1, hcz98_2, hcz98_3, hcz98_4, hfz98_0, hfz98_1, hfz98_2, hfz98_3, hfz98_4⟩ := z5 BK559))
                 go_meet
                 case rel => exact ⟨_, (((l1_4.length : Int) == 0)), rs_, H', ⟨by have := HJ5.out; have := HJ28.out; have := HJ36.out; first | omega | exact Nat.le_refl _⟩, ⟨uV HO_560003.out⟩, ⟨uV HO_560004.out⟩, ⟨uB BK558.out⟩, ⟨uB BK559.out⟩, ⟨bl⟩⟩
                ·
                 rw [if_neg c92] at H
                 have c92b0 : (a1_0 == 1) = false := beq_eq_false_iff_ne.mpr c92
                 have c92b1 : (a1_0 != 1) = true := bne_iff_ne.mpr c92
                 by_cases c99 : a1_0 = 3
                 ·
                  rw [if_pos c99] at H
                  have c99b0 : (a1_0 == 3) = true := beq_iff_eq.mpr c99
                  have c99b1 : (a1_0 != 3) = false := bne_eq_false_iff_eq.mpr c99
                  clear c99
                  have H' := Aside0.mk H
                  clear H
                  have hnb100 := NB559_558.out
                  have hnc100 := NB558_559.out
                  have hcz101_0 : wc.cell? ⟨gb559, 0, none⟩ = some (.int .i64 a1_0) := (blk_cell BK559.out 0).trans rfl
                  have hcz101_1 : wc.cell? ⟨gb559, 1, none⟩ = some (.int .i64 a1_1) := (blk_cell BK559.out 1).trans rfl
                  have hcz101_2 : wc.cell? ⟨gb559, 2, none⟩ = some (.int .i64 a1_2) := (blk_cell BK559.out 2).trans rfl
                  have hcz101_3 : wc.cell? ⟨gb559, 3, none⟩ = some (.slice A1_3 l1_3.length c1_3) := (blk_cell BK559.out 3).trans rfl
                  have hcz101_4 : wc.cell? ⟨gb559, 4, none⟩ = some (.slice A1_4 l1_4.length c1_4) := (blk_cell BK559.out 4).trans rfl
                  have hfz101_0 := blk_frozen BK559.out 0
                  have hfz101_1 := blk_frozen BK559.out 1
                  have hfz101_2 := blk_frozen BK559.out 2
                  have hfz101_3 := blk_frozen BK559.out 3
                  have hfz101_4 := blk_frozen BK559.out 4
                  go_wp2_with (first | (go_at_call 30; (with_reducible refine (r08_Right.calls kj36 _ _ l1_3 true _ ?side1 ?side2 A60.out).mono ?_); (case side1 => exact uC <| (Kd.V_reads' HO_560003.out).2.2); (case side2 => exact (Kd.V_reads' HO_560003.out).2.1); rintro e w102 ⟨rfl, hb⟩; replace HO_560003 := cV HO_560003 hb; replace HO_560004 := cV HO_560004 hb; replace BK558 := cB BK558 hb; replace BK559 := cB BK559 hb; replace HB := Aside0.mk (below_step bl hb); (try clear hb); obtain ⟨hcz103_0, hcz103_1, hcz103_2, hcz103_3, hcz103_4, hfz103_0, hfz103_1, hfz103_2, hfz103_3, hfz103_4⟩ := z5 BK559) | (go_at_call 32; (with_reducible refine (r09_Right.calls kj36 _ _ l1_4 true _ ?side1 ?side2 A62.out).mono ?_); (case side1 => exact uC <| (Kd.V_reads' HO_560004.out).2.2); (case side2 => exact (Kd.V_reads' HO_560004.out).2.1); rintro e w104 ⟨rfl, hb⟩; replace HO_560003 := cV HO_560003 hb; replace HO_560004 := cV HO_560004 hb; replace BK558 := cB BK558 hb; replace BK559 := cB BK559 hb; replace HB := Aside0.mk (below_step bl hb); (try clear hb); obtain ⟨hcz105_0, hcz105_1, hcz105_2, hcz105_3, hcz105_4, hfz105_0, hfz105_1, hfz105_2, hfz105_3, hfz105_4⟩ := z5 BK559))
                  go_meet
                  case rel => exact ⟨_, (((l1_4.length : Int) == 0)), rs_, H', ⟨by have := HJ5.out; have := HJ28.out; have := HJ36.out; first | omega | exact Nat.le_refl _⟩, ⟨uV HO_560003.out⟩, ⟨uV HO_560004.out⟩, ⟨uB BK558.out⟩, ⟨uB BK559.out⟩, ⟨bl⟩⟩
                 ·
                  rw [if_neg c99] at H
                  have c99b0 : (a1_0 == 3) = false := beq_eq_false_iff_ne.mpr c99
                  have c99b1 : (a1_0 != 3) = true := bne_iff_ne.mpr c99
                  have H' := Aside0.mk H
                  clear H
                  have hnb106 := NB559_558.out
                  have hnc106 := NB558_559.out
                  have hcz107_0 : wc.cell? ⟨gb559, 0, none⟩ = some (.int .i64 a1_0) := (blk_cell BK559.out 0).trans rfl
                  have hcz107_1 : wc.cell? ⟨gb559, 1, none⟩ = some (.int .i64 a1_1) := (blk_cell BK559.out 1).trans rfl
                  have hcz107_2 : wc.cell? ⟨gb559, 2, none⟩ = some (.int .i64 a1_2) := (blk_cell BK559.out 2).trans rfl
                  have hcz107_3 : wc.cell? ⟨gb559, 3, none⟩ = some (.slice A1_3 l1_3.length c1_3) := (blk_cell BK559.out 3).trans rfl
                  have hcz107_4 : wc.cell? ⟨gb559, 4, none⟩ = some (.slice A1_4 l1_4.length c1_4) := (blk_cell BK559.out 4).trans rfl
                  have hfz107_0 := blk_frozen BK559.out 0
                  have hfz107_1 := blk_frozen BK559.out 1
                  have hfz107_2 := blk_frozen BK559.out 2
                  have hfz107_3 := blk_frozen BK559.out 3
                  have hfz107_4 := blk_frozen BK559.out 4
                  go_wp2_with (first | (go_at_call 30; (with_reducible refine (r08_Right.calls kj36 _ _ l1_3 true _ ?side1 ?side2 A60.out).mono ?_); (case side1 => exact uC <| (Kd.V_reads' HO_560003.out).2.2); (case side2 => exact (Kd.V_reads' HO_560003.out).2.1); rintro e w108 ⟨rfl, hb⟩; replace HO_560003 := cV HO_560003 hb; replace HO_560004 := cV HO_560004 hb; replace BK558 := cB BK558 hb; replace BK559 := cB BK559 hb; replace HB := Aside0.mk (below_step bl hb); (try clear hb); obtain ⟨hcz109_0, hcz109_1, hcz109_2, hcz109_3, hcz109_4, hfz109_0, hfz109_1, hfz109_2, hfz109_3, hfz109_4⟩ := z5 BK559) | (go_at_call 32; (with_reducible refine (r09_Right.calls kj36 _ _ l1_4 true _ ?side1 ?side2 A62.out).mono ?_); (case side1 => exact uC <| (Kd.V_reads' HO_560004.out).2.2); (case side2 => exact (Kd.V_reads' HO_560004.out).2.1); rintro e w110 ⟨rfl, hb⟩; replace HO_560003 := cV HO_560003 hb; replace HO_560004 := cV HO_560004 hb; replace BK558 := cB BK558 hb; replace BK559 := cB BK559 hb; replace HB := Aside0.mk (below_step bl hb); (try clear hb); obtain ⟨hcz111_0, hcz111_1, hcz111_2, hcz111_3, hcz111_4, hfz111_0, hfz111_1, hfz111_2, hfz111_3, hfz111_4⟩ := z5 BK559))
                  go_meet
                  case rel => exact ⟨_, (false), rs_, H', ⟨by have := HJ5.out; have := HJ28.out; have := HJ36.out; first | omega | exact Nat.le_refl _⟩, ⟨uV HO_560003.out⟩, ⟨uV HO_560004.out⟩, ⟨uB BK558.out⟩, ⟨uB BK559.out⟩, ⟨bl⟩⟩
              ·
               replace c63 := Bool.eq_false_iff.mpr c63
               subst c63
               rw [if_neg (show ¬ (false = true) by decide)] at H
               have H' := Aside0.mk H
               clear H
               have hnb112 := NB559_558.out
               have hnc112 := NB558_559.out
               have hcz113_0 : wc.cell? ⟨gb559, 0, none⟩ = some (.int .i64 a1_0) := (blk_cell BK559.out 0).trans rfl
               have hcz113_1 : wc.cell? ⟨gb559, 1, none⟩ = some (.int .i64 a1_1) := (blk_cell BK559.out 1).trans rfl
               have hcz113_2 : wc.cell? ⟨gb559, 2, none⟩ = some (.int .i64 a1_2) := (blk_cell BK559.out 2).trans rfl
               have hcz113_3 : wc.cell? ⟨gb559, 3, none⟩ = some (.slice A1_3 l1_3.length c1_3) := (blk_cell BK559.out 3).trans rfl
               have hcz113_4 : wc.cell? ⟨gb559, 4, none⟩ = some (.slice A1_4 l1_4.length c1_4) := (blk_cell BK559.out 4).trans rfl
               have hfz113_0 := blk_frozen BK559.out 0
               have hfz113_1 := blk_frozen BK559.out 1
               have hfz113_2 := blk_frozen BK559.out 2
               have hfz113_3 := blk_frozen BK559.out 3
               have hfz113_4 := blk_frozen BK559.out 4
               go_wp2_with (first | (go_at_call 30; (with_reducible refine (r08_Right.calls kj36 _ _ l1_3 true _ ?side1 ?side2 A60.out).mono ?_); (case side1 => exact uC <| (Kd.V_reads' HO_560003.out).2.2); (case side2 => exact (Kd.V_reads' HO_560003.out).2.1); rintro e w114 ⟨rfl, hb⟩; replace HO_560003 := cV HO_560003 hb; replace HO_560004 := cV HO_560004 hb; replace BK558 := cB BK558 hb; replace BK559 := cB BK559 hb; replace HB := Aside0.mk (below_step bl hb); (try clear hb); obtain ⟨hcz115_0, hcz115_1, hcz115_2, hcz115_3, hcz115_4, hfz115_0, hfz115_1, hfz115_2, hfz115_3, hfz115_4⟩ := z5 BK559) | (go_at_call 32; (with_reducible refine (r09_Right.calls kj36 _ _ l1_4 false _ ?side1 ?side2 A62.out).mono ?_); (case side1 => exact uC <| (Kd.V_reads' HO_560004.out).2.2); (case side2 => exact (Kd.V_reads' HO_560004.out).2.1); rintro e w116 ⟨rfl, hb⟩; replace HO_560003 := cV HO_560003 hb; replace HO_560004 := cV HO_560004 hb; replace BK558 := cB BK558 hb; replace BK559 := cB BK559 hb; replace HB := Aside0.mk (below_step bl hb); (try clear hb)))
               go_meet
               case rel => exact ⟨_, (false), rs_, H', ⟨by have := HJ5.out; have := HJ28.out; have := HJ36.out; first | omega | exact Nat.le_refl _⟩, ⟨uV HO_560003.out⟩, ⟨uV HO_560004.out⟩, ⟨uB BK558.out⟩, ⟨uB BK559.out⟩, ⟨bl⟩⟩
             ·
              replace c61 := Bool.eq_false_iff.mpr c61
              subst c61
              rw [if_neg (show ¬ (false = true) by decide)] at H
              have H' := Aside0.mk H
              clear H
              have hnb117 := NB559_558.out
              have hnc117 := NB558_559.out
              obtain ⟨hcz118_0, hcz118_1, hcz118_2, hcz118_3, hcz118_4, hfz118_0, hfz118_1, hfz118_2, hfz118_3, hfz118_4⟩ := z5 BK559
              go_wp2_with (first | (go_at_call 30; (with_reducible refine (r08_Right.calls kj36 _ _ l1_3 false _ ?side1 ?side2 A60.out).mono ?_); (case side1 => exact uC <| (Kd.V_reads' HO_560003.out).2.2); (case side2 => exact (Kd.V_reads' HO_560003.out).2.1); rintro e w119 ⟨rfl, hb⟩; replace HO_560003 := cV HO_560003 hb; replace HO_560004 := cV HO_560004 hb; replace BK558 := cB BK558 hb; replace BK559 := cB BK559 hb; replace HB := Aside0.mk (below_step bl hb); (try clear hb)))
              go_meet
              case rel => exact ⟨_, (false), rs_, H', ⟨by have := HJ5.out; have := HJ28.out; have := HJ36.out; first | omega | exact Nat.le_refl _⟩, ⟨uV HO_560003.out⟩, ⟨uV HO_560004.out⟩, ⟨uB BK558.out⟩, ⟨uB BK559.out⟩, ⟨bl⟩⟩
            ·
             rw [if_neg c59] at H
             have c59b0 : decide (a1_1 < 2147483648) = false := decide_eq_false c59
             clear c59
             have H' := Aside0.mk H
             clear H
             have hnb120 := NB559_558.out
             have hnc120 := NB558_559.out
             obtain ⟨hcz121_0, hcz121_1, hcz121_2, hcz121_3, hcz121_4, hfz121_0, hfz121_1, hfz121_2, hfz121_3, hfz121_4⟩ := z5 BK559
             go_wp2
             go_meet
             case rel => exact ⟨_, (false), rs_, H', ⟨by have := HJ5.out; have := HJ28.out; have := HJ36.out; first | omega | exact Nat.le_refl _⟩, ⟨uV HO_560003.out⟩, ⟨uV HO_560004.out⟩, ⟨uB BK558.out⟩, ⟨uB BK559.out⟩, ⟨bl⟩⟩
           ·
            rw [if_neg c58] at H
            have c58b0 : decide (0 ≤ a1_1) = false := decide_eq_false c58
            clear c58
            have H' := Aside0.mk H
            clear H
            have hnb122 := NB559_558.out
            have hnc122 := NB558_559.out
            obtain ⟨hcz123_0, hcz123_1, hcz123_2, hcz123_3, hcz123_4, hfz123_0, hfz123_1, hfz123_2, hfz123_3, hfz123_4⟩ := z5 BK559
            go_wp2
            go_meet
            case rel => exact ⟨_, (false), rs_, H', ⟨by have := HJ5.out; have := HJ28.out; have := HJ36.out; first | omega | exact Nat.le_refl _⟩, ⟨uV HO_560003.out⟩, ⟨uV HO_560004.out⟩, ⟨uB BK558.out⟩, ⟨uB BK559.out⟩, ⟨bl⟩⟩
          ·
           rw [if_neg c57] at H
           have c57b0 : decide (0 ≤ a1_2) = false := decide_eq_false c57
           clear c57
           (first | rw [c57b0] | (simp only [i64_w, i32_w]; rw [c57b0]) | skip)
           have H' := Aside0.mk H
           clear H
           have hnb124 := NB559_558.out
           have hnc124 := NB558_559.out
           obtain ⟨hcz125_0, hcz125_1, hcz125_2, hcz125_3, hcz125_4, hfz125_0, hfz125_1, hfz125_2, hfz125_3, hfz125_4⟩ := z5 BK559
           go_wp2
           go_meet
           case rel => exact ⟨_, (false), rs_, H', ⟨by have := HJ5.out; have := HJ28.out; have := HJ36.out; first | omega | exact Nat.le_refl _⟩, ⟨uV HO_560003.out⟩, ⟨uV HO_560004.out⟩, ⟨uB BK558.out⟩, ⟨uB BK559.out⟩, ⟨bl⟩⟩
         case rest =>
          as_aux_lemma =>
          clear HC56
          try clear c1
          try clear c2
          try clear p2 p2
          try clear c3
          try clear c4
          try clear c5
          try clear c6
          try clear c7
          try clear c11
          try clear c12
          try clear c15
          try clear c16
          try clear c18
          try clear c22
          try clear c24
          try clear c28
          try clear c30
          try clear c30b0
          try clear c32
          try clear c35
          try clear c38
          try clear c41
          try clear c41b0
          try clear c41b1
          try clear c42
          try clear c42b0
          try clear c42b1
          try clear c43
          try clear c43b0
          try clear c43b1
          try clear c45
          try clear c46
          try clear c51
          try clear c52
          try clear hcz13_0 hcz13_1 hcz13_2 hfz13_0 hfz13_1 hfz13_2
          try clear hcz17_0 hcz17_1 hcz17_2 hfz17_0 hfz17_1 hfz17_2
          try clear hcz18_0 hcz18_1 hcz18_2 hcz18_3 hcz18_4 hfz18_0 hfz18_1 hfz18_2 hfz18_3 hfz18_4
          try clear hcz23_0 hcz23_1 hcz23_2 hfz23_0 hfz23_1 hfz23_2
          try clear hcz24_0 hcz24_1 hcz24_2 hcz24_3 hcz24_4 hfz24_0 hfz24_1 hfz24_2 hfz24_3 hfz24_4
          try clear hcz33_0 hcz33_1 hcz33_2 hfz33_0 hfz33_1 hfz33_2
          try clear hcz36_0 hcz36_1 hcz36_2 hfz36_0 hfz36_1 hfz36_2
          try clear hcz47_0 hcz47_1 hcz47_2 hfz47_0 hfz47_1 hfz47_2
          try clear hcz53_0 hcz53_1 hcz53_2 hfz53_0 hfz53_1 hfz53_2
          try clear hcz55_0 hcz55_1 hcz55_2 hfz55_0 hfz55_1 hfz55_2
          obtain ⟨kq, x117_55, rfl, HA, HJ55, HO_560003, HO_560004, BK558, BK559, HB⟩ := hcut
          cases kq with
          | zero => exact absurd HA.out (by simp [w23_ReplyBack.j3])
          | succ kj55 =>
           have H := HA.out
           clear HA
           simp only [w23_ReplyBack.j3] at H
           have HC126 := Aside0.mk H
           clear H
           go_upto_if 117 with (fail)
           go_cut [] (fun wc => ∃ (kq : Nat), Aside0 (w23_ReplyBack.j4 kq a2 = some r) ∧ Aside0 (kq ≤ kj55) ∧ Aside0 (Kd.V k60 60 wc w.heap.size (fun k_ => ((P1_3_ k_ ∨ P1_4_ k_) ∨ w.heap.size ≤ k_) ∧ k_ ≠ gb558 ∧ k_ ≠ gb559) (.slice A1_3 l1_3.length c1_3) l1_3) ∧ Aside0 (Kd.V k78 78 wc w.heap.size (fun k_ => ((P1_3_ k_ ∨ P1_4_ k_) ∨ w.heap.size ≤ k_) ∧ k_ ≠ gb558 ∧ k_ ≠ gb559) (.slice A1_4 l1_4.length c1_4) l1_4) ∧ Aside0 (wc.heap[gb558]? = some (.cells #[.int .i64 a0_0, .int .i64 a0_1, (.slice A0_2 l0_2.length c0_2)] 33 (0, 0))) ∧ Aside0 (wc.heap[gb559]? = some (.cells #[.int .i64 a1_0, .int .i64 a1_1, .int .i64 a1_2, (.slice A1_3 l1_3.length c1_3), (.slice A1_4 l1_4.length c1_4)] 36 (0, 0))) ∧ Aside0 (Below w.heap.size w wc))
           case first =>
            as_aux_lemma =>
            have H := HC126.out
            clear HC126
            by_cases c127 : x117_55 = true
            ·
             subst c127
             rw [if_pos rfl] at H
             obtain ⟨t578, A128, H⟩ := bs H
             try dsimp only at H
             obtain ⟨⟨t579, t580, t581, t582, t585, t588⟩, A129, H⟩ := bs H
             try dsimp only at H
             by_cases c130 : t588 = 0
             ·
              rw [if_pos c130] at H
              have c130b0 : (t588 == 0) = true := beq_iff_eq.mpr c130
              have c130b1 : (t588 != 0) = false := bne_eq_false_iff_eq.mpr c130
              clear c130
              (first | rw [c130b0] | (simp only [i64_w, i32_w]; rw [c130b0]) | skip)
              obtain ⟨t590, A131, H⟩ := bs H
              try dsimp only at H
              by_cases c132 : t590 = true
              ·
               subst c132
               rw [if_pos rfl] at H
               have H' := Aside0.mk H
               clear H
               have hnb133 := NB559_558.out
               have hnc133 := NB558_559.out
               have hcz134_0 : wc.cell? ⟨gb559, 0, none⟩ = some (.int .i64 a1_0) := (blk_cell BK559.out 0).trans rfl
               have hcz134_1 : wc.cell? ⟨gb559, 1, none⟩ = some (.int .i64 a1_1) := (blk_cell BK559.out 1).trans rfl
               have hcz134_2 : wc.cell? ⟨gb559, 2, none⟩ = some (.int .i64 a1_2) := (blk_cell BK559.out 2).trans rfl
               have hcz134_3 : wc.cell? ⟨gb559, 3, none⟩ = some (.slice A1_3 l1_3.length c1_3) := (blk_cell BK559.out 3).trans rfl
               have hcz134_4 : wc.cell? ⟨gb559, 4, none⟩ = some (.slice A1_4 l1_4.length c1_4) := (blk_cell BK559.out 4).trans rfl
               have hfz134_0 := blk_frozen BK559.out 0
               have hfz134_1 := blk_frozen BK559.out 1
               have hfz134_2 := blk_frozen BK559.out 2
               have hfz134_3 := blk_frozen BK559.out 3
               have hfz134_4 := blk_frozen BK559.out 4
               go_wp2_with (first | (refine gL (some 120) rfl Tryz.func20 #[.agg #[.int .i64 a1_0, .int .i64 a1_1, .int .i64 a1_2, .slice A1_3 l1_3.length c1_3, .slice A1_4 l1_4.length c1_4]] ?_; (with_reducible refine (reply_Message.calls (hL := ld) kj55 a1_0 a1_1 a1_2 _ _ l1_3 _ _ l1_4 t578 _ ?side1 ?side2 ?side3 ?side4 A128.out).mono ?_); (case side1 => exact uC <| (Kd.V_reads' HO_560003.out).2.2); (case side2 => exact (Kd.V_reads' HO_560003.out).2.1); (case side3 => exact uC <| (Kd.V_reads' HO_560004.out).2.2); (case side4 => exact (Kd.V_reads' HO_560004.out).2.1); rintro e w135 ⟨rfl, hb⟩; refine ⟨_, rfl, ?_⟩; replace HO_560003 := cV HO_560003 hb; replace HO_560004 := cV HO_560004 hb; replace BK558 := cB BK558 hb; replace BK559 := cB BK559 hb; replace HB := Aside0.mk (below_step bl hb); (try clear hb)) | (refine gL (some 121) rfl Tryz.func26 #[.string t578] ?_; (with_reducible refine (reply_ReadMessage.calls (hL := ld) kj55 t578 t579 t580 t581 t582 t585 t588 _ A129.out).mono ?_); rintro e w136 ⟨v583, v586, rfl, ho0, ho1, hb⟩; refine ⟨_, rfl, ?_⟩; replace HO_560003 := Aside0.mk (Kd.V_mono (Kd.V_told (Kd.V_told (Kd.V_old (uV HO_560003.out) hb) (Kd.R_base ho0)) (Kd.R_base ho1)) (fun _ h_ => h_.1)); replace HO_560004 := Aside0.mk (Kd.V_mono (Kd.V_told (Kd.V_told (Kd.V_old (uV HO_560004.out) hb) (Kd.R_base ho0)) (Kd.R_base ho1)) (fun _ h_ => h_.1)); have HO584 := Aside0.mk (Kd.R_lower (Kd.R_newM (M := fun k_ => (w.heap.size ≤ k_)) ho0 (below_size bl) (fun k_ h_ => h_)) (below_size bl)); have HO587 := Aside0.mk (Kd.R_lower (Kd.R_newM (M := fun k_ => (w.heap.size ≤ k_)) ho1 (below_size bl) (fun k_ h_ => h_)) (below_size bl)); replace BK558 := cB BK558 hb; replace BK559 := cB BK559 hb; replace HB := Aside0.mk (below_step bl hb); (try clear hb); (try clear ho0); (try clear ho1)) | ((with_reducible refine gate_dst (N := 9) rfl ?_); (try (refine gate_guard (by rfl) ?_; dsimp only)); refine bx (N := 9) #[.int .i64 0, .int .i64 0, .int .i64 0, .slice none 0 0, .slice none 0 0] 36 ?_; intro gb589 hg w137 hbox hb; replace HO_560003 := Aside0.mk (Kd.V_below (Kd.V_elderB (uV HO_560003.out) gb589 (Nat.le_of_eq hg.symm)) hb); replace HO_560004 := Aside0.mk (Kd.V_below (Kd.V_elderB (uV HO_560004.out) gb589 (Nat.le_of_eq hg.symm)) hb); replace HO584 := cR HO584 hb; replace HO587 := cR HO587 hb; have BK589 := Aside0.mk (hbox); have GW589 := gw hg bl; have GE589 := GW589; replace HB := Aside0.mk (below_step bl hb); have NB558_589 := nl BK558 hg; have NB589_558 := nr BK558 hg; replace BK558 := cB BK558 hb; have NB559_589 := nl BK559 hg; have NB589_559 := nr BK559 hg; replace BK559 := cB BK559 hb; clear hb hbox hg; have hnb138 := NB589_558.out; have hnc138 := NB558_589.out; have hnb139 := NB589_559.out; have hnc139 := NB559_589.out; obtain ⟨hcz140_0, hcz140_1, hcz140_2, hcz140_3, hcz140_4, hfz140_0, hfz140_1, hfz140_2, hfz140_3, hfz140_4⟩ := z5 BK589; obtain ⟨Ao141, co141, eo141⟩ := Kd.R_slice HO584.out; subst eo141; obtain ⟨Ao142, co142, eo142⟩ := Kd.R_slice HO587.out; subst eo142) | ((with_reducible refine gate_store (t := 36) (p := 9) rfl ?_); refine store_event (t := 36) (p := 9) (v := ?vo_w143) (w1 := (((((w137.setCell ⟨gb589, 0, none⟩ (.int .i64 t579)).setCell ⟨gb589, 1, none⟩ (.int .i64 t580)).setCell ⟨gb589, 2, none⟩ (.int .i64 t581)).setCell ⟨gb589, 3, none⟩ (.slice Ao141 t582.length co141)).setCell ⟨gb589, 4, none⟩ (.slice Ao142 t585.length co142))) ?hg ?ho ?hn ?hr ?_; (case ho => rfl); (case hg => rfl); (case hn => rfl); (case hr => first | (go_simp; done) | (go_simp; rfl)); intro w143 hw; replace HO_560003 := fgNV (ok' := (fun k_ => ((P1_3_ k_ ∨ P1_4_ k_) ∨ w.heap.size ≤ k_) ∧ some k_ ≠ (.slice Ao141 t582.length co141 : Value).ownBlock ∧ some k_ ≠ (.slice Ao142 t585.length co142 : Value).ownBlock ∧ k_ ≠ gb558 ∧ k_ ≠ gb559 ∧ k_ ≠ gb589)) hw HO_560003 (fun k_ hk => (⟨hk, hk.2⟩ : _ ∧ k_ ≠ gb589)) (fun _ hk => ⟨hk.1.1.1.1.1, ⟨hk.1.1.1.2, ⟨hk.1.1.2, ⟨hk.1.1.1.1.2.1, ⟨hk.1.1.1.1.2.2, hk.1.2⟩⟩⟩⟩⟩); replace HO_560004 := fgNV (ok' := (fun k_ => ((P1_3_ k_ ∨ P1_4_ k_) ∨ w.heap.size ≤ k_) ∧ some k_ ≠ (.slice Ao141 t582.length co141 : Value).ownBlock ∧ some k_ ≠ (.slice Ao142 t585.length co142 : Value).ownBlock ∧ k_ ≠ gb558 ∧ k_ ≠ gb559 ∧ k_ ≠ gb589)) hw HO_560004 (fun k_ hk => (⟨hk, hk.2⟩ : _ ∧ k_ ≠ gb589)) (fun _ hk => ⟨hk.1.1.1.1.1, ⟨hk.1.1.1.2, ⟨hk.1.1.2, ⟨hk.1.1.1.1.2.1, ⟨hk.1.1.1.1.2.2, hk.1.2⟩⟩⟩⟩⟩); replace HO584 := fgR (ok' := (fun k_ => (w.heap.size ≤ k_))) hw HO584 BK589 (fun _ hk => hk.1.1); replace HO587 := fgR (ok' := (fun k_ => (w.heap.size ≤ k_))) hw HO587 BK589 (fun _ hk => hk.1.1); replace BK558 := fgF hw BK558 NB558_589; replace BK559 := fgF hw BK559 NB559_589; replace HB : Aside0 (Below w.heap.size w w143) := fgW hw bl; replace BK589 := fgB hw BK589; clear hw; obtain ⟨hcz144_0, hcz144_1, hcz144_2, hcz144_3, hcz144_4, hfz144_0, hfz144_1, hfz144_2, hfz144_3, hfz144_4⟩ := z5 BK589; obtain ⟨hcz145_0, hcz145_1, hcz145_2, hcz145_3, hcz145_4, hfz145_0, hfz145_1, hfz145_2, hfz145_3, hfz145_4⟩ := z5 BK559) | (go_at_call 29; (with_reducible refine (r19_Equal.calls kj55 t579 t580 t581 _ _ t582 _ _ t585 a1_0 a1_1 a1_2 _ _ l1_3 _ _ l1_4 true _ ?side1 ?side2 ?side3 ?side4 ?side5 ?side6 ?side7 ?side8 A131.out).mono ?_); (case side1 => exact uC <| (Kd.R_reads' HO584.out).2.2); (case side2 => exact (Kd.R_reads' HO584.out).2.1); (case side3 => exact uC <| (Kd.R_reads' HO587.out).2.2); (case side4 => exact (Kd.R_reads' HO587.out).2.1); (case side5 => exact uC <| (Kd.V_reads' HO_560003.out).2.2); (case side6 => exact (Kd.V_reads' HO_560003.out).2.1); (case side7 => exact uC <| (Kd.V_reads' HO_560004.out).2.2); (case side8 => exact (Kd.V_reads' HO_560004.out).2.1); rintro e w146 ⟨rfl, hb⟩; replace HO_560003 := cV HO_560003 hb; replace HO_560004 := cV HO_560004 hb; replace HO584 := cR HO584 hb; replace HO587 := cR HO587 hb; replace BK558 := cB BK558 hb; replace BK559 := cB BK559 hb; replace BK589 := cB BK589 hb; replace HB := Aside0.mk (below_step bl hb); (try clear hb)))
               go_meet
               case rel => exact ⟨_, H', ⟨by have := HJ5.out; have := HJ28.out; have := HJ36.out; have := HJ55.out; first | omega | exact Nat.le_refl _⟩, ⟨by exact uV <| Kd.V_mono HO_560003.out (fun _ hk => ⟨hk.1, ⟨hk.2.2.2.1, hk.2.2.2.2.1⟩⟩)⟩, ⟨by exact uV <| Kd.V_mono HO_560004.out (fun _ hk => ⟨hk.1, ⟨hk.2.2.2.1, hk.2.2.2.2.1⟩⟩)⟩, ⟨uB BK558.out⟩, ⟨uB BK559.out⟩, ⟨bl⟩⟩
              ·
               replace c132 := Bool.eq_false_iff.mpr c132
               subst c132
               rw [if_neg (show ¬ (false = true) by decide)] at H
               exact absurd H (by simp)
             ·
              rw [if_neg c130] at H
              exact absurd H (by simp)
            ·
             replace c127 := Bool.eq_false_iff.mpr c127
             subst c127
             rw [if_neg (show ¬ (false = true) by decide)] at H
             have H' := Aside0.mk H
             clear H
             go_wp2
             go_meet
             case rel => exact ⟨_, H', ⟨by have := HJ5.out; have := HJ28.out; have := HJ36.out; have := HJ55.out; first | omega | exact Nat.le_refl _⟩, ⟨uV HO_560003.out⟩, ⟨uV HO_560004.out⟩, ⟨uB BK558.out⟩, ⟨uB BK559.out⟩, ⟨bl⟩⟩
           case rest =>
            as_aux_lemma =>
            clear HC126
            try clear c1
            try clear c2
            try clear p2 p2
            try clear c3
            try clear c4
            try clear c5
            try clear c6
            try clear c7
            try clear c8
            try clear c9
            try clear c10
            try clear c11
            try clear c12
            try clear c15
            try clear c16
            try clear c18
            try clear c22
            try clear c24
            try clear c28
            try clear c30
            try clear c30b0
            try clear c32
            try clear c35
            try clear c38
            try clear c41
            try clear c41b0
            try clear c41b1
            try clear c42
            try clear c42b0
            try clear c42b1
            try clear c43
            try clear c43b0
            try clear c43b1
            try clear c45
            try clear c46
            try clear c51
            try clear c52
            try clear c57
            try clear c57b0
            try clear c58
            try clear c58b0
            try clear c59
            try clear c59b0
            try clear c61
            try clear c63
            try clear c64
            try clear c64b0
            try clear c64b1
            try clear c65
            try clear c65b0
            try clear c65b1
            try clear c65b2
            try clear c66
            try clear c72
            try clear c72b0
            try clear c72b1
            try clear c73
            try clear c79
            try clear c79b0
            try clear c79b1
            try clear c80
            try clear c86
            try clear c92
            try clear c92b0
            try clear c92b1
            try clear c93
            try clear c99
            try clear c99b0
            try clear c99b1
            try clear c100
            try clear c106
            try clear c112
            try clear c117
            try clear c120
            try clear c122
            try clear c124
            try clear hcz101_0 hcz101_1 hcz101_2 hcz101_3 hcz101_4 hfz101_0 hfz101_1 hfz101_2 hfz101_3 hfz101_4
            try clear hcz103_0 hcz103_1 hcz103_2 hcz103_3 hcz103_4 hfz103_0 hfz103_1 hfz103_2 hfz103_3 hfz103_4
            try clear hcz105_0 hcz105_1 hcz105_2 hcz105_3 hcz105_4 hfz105_0 hfz105_1 hfz105_2 hfz105_3 hfz105_4
            try clear hcz107_0 hcz107_1 hcz107_2 hcz107_3 hcz107_4 hfz107_0 hfz107_1 hfz107_2 hfz107_3 hfz107_4
            try clear hcz109_0 hcz109_1 hcz109_2 hcz109_3 hcz109_4 hfz109_0 hfz109_1 hfz109_2 hfz109_3 hfz109_4
            try clear hcz111_0 hcz111_1 hcz111_2 hcz111_3 hcz111_4 hfz111_0 hfz111_1 hfz111_2 hfz111_3 hfz111_4
            try clear hcz113_0 hcz113_1 hcz113_2 hcz113_3 hcz113_4 hfz113_0 hfz113_1 hfz113_2 hfz113_3 hfz113_4
            try clear hcz115_0 hcz115_1 hcz115_2 hcz115_3 hcz115_4 hfz115_0 hfz115_1 hfz115_2 hfz115_3 hfz115_4
            try clear hcz118_0 hcz118_1 hcz118_2 hcz118_3 hcz118_4 hfz118_0 hfz118_1 hfz118_2 hfz118_3 hfz118_4
            try clear hcz121_0 hcz121_1 hcz121_2 hcz121_3 hcz121_4 hfz121_0 hfz121_1 hfz121_2 hfz121_3 hfz121_4
            try clear hcz123_0 hcz123_1 hcz123_2 hcz123_3 hcz123_4 hfz123_0 hfz123_1 hfz123_2 hfz123_3 hfz123_4
            try clear hcz125_0 hcz125_1 hcz125_2 hcz125_3 hcz125_4 hfz125_0 hfz125_1 hfz125_2 hfz125_3 hfz125_4
            try clear hcz13_0 hcz13_1 hcz13_2 hfz13_0 hfz13_1 hfz13_2
            try clear hcz17_0 hcz17_1 hcz17_2 hfz17_0 hfz17_1 hfz17_2
            try clear hcz18_0 hcz18_1 hcz18_2 hcz18_3 hcz18_4 hfz18_0 hfz18_1 hfz18_2 hfz18_3 hfz18_4
            try clear hcz23_0 hcz23_1 hcz23_2 hfz23_0 hfz23_1 hfz23_2
            try clear hcz24_0 hcz24_1 hcz24_2 hcz24_3 hcz24_4 hfz24_0 hfz24_1 hfz24_2 hfz24_3 hfz24_4
            try clear hcz33_0 hcz33_1 hcz33_2 hfz33_0 hfz33_1 hfz33_2
            try clear hcz36_0 hcz36_1 hcz36_2 hfz36_0 hfz36_1 hfz36_2
            try clear hcz47_0 hcz47_1 hcz47_2 hfz47_0 hfz47_1 hfz47_2
            try clear hcz53_0 hcz53_1 hcz53_2 hfz53_0 hfz53_1 hfz53_2
            try clear hcz55_0 hcz55_1 hcz55_2 hfz55_0 hfz55_1 hfz55_2
            try clear hcz67_0 hcz67_1 hcz67_2 hcz67_3 hcz67_4 hfz67_0 hfz67_1 hfz67_2 hfz67_3 hfz67_4
            try clear hcz69_0 hcz69_1 hcz69_2 hcz69_3 hcz69_4 hfz69_0 hfz69_1 hfz69_2 hfz69_3 hfz69_4
            try clear hcz71_0 hcz71_1 hcz71_2 hcz71_3 hcz71_4 hfz71_0 hfz71_1 hfz71_2 hfz71_3 hfz71_4
            try clear hcz74_0 hcz74_1 hcz74_2 hcz74_3 hcz74_4 hfz74_0 hfz74_1 hfz74_2 hfz74_3 hfz74_4
            try clear hcz76_0 hcz76_1 hcz76_2 hcz76_3 hcz76_4 hfz76_0 hfz76_1 hfz76_2 hfz76_3 hfz76_4
            try clear hcz78_0 hcz78_1 hcz78_2 hcz78_3 hcz78_4 hfz78_0 hfz78_1 hfz78_2 hfz78_3 hfz78_4
            try clear hcz81_0 hcz81_1 hcz81_2 hcz81_3 hcz81_4 hfz81_0 hfz81_1 hfz81_2 hfz81_3 hfz81_4
            try clear hcz83_0 hcz83_1 hcz83_2 hcz83_3 hcz83_4 hfz83_0 hfz83_1 hfz83_2 hfz83_3 hfz83_4
            try clear hcz85_0 hcz85_1 hcz85_2 hcz85_3 hcz85_4 hfz85_0 hfz85_1 hfz85_2 hfz85_3 hfz85_4
            try clear hcz87_0 hcz87_1 hcz87_2 hcz87_3 hcz87_4 hfz87_0 hfz87_1 hfz87_2 hfz87_3 hfz87_4
            try clear hcz89_0 hcz89_1 hcz89_2 hcz89_3 hcz89_4 hfz89_0 hfz89_1 hfz89_2 hfz89_3 hfz89_4
            try clear hcz91_0 hcz91_1 hcz91_2 hcz91_3 hcz91_4 hfz91_0 hfz91_1 hfz91_2 hfz91_3 hfz91_4
            try clear hcz94_0 hcz94_1 hcz94_2 hcz94_3 hcz94_4 hfz94_0 hfz94_1 hfz94_2 hfz94_3 hfz94_4
            try clear hcz96_0 hcz96_1 hcz96_2 hcz96_3 hcz96_4 hfz96_0 hfz96_1 hfz96_2 hfz96_3 hfz96_4
            try clear hcz98_0 hcz98_1 hcz98_2 hcz98_3 hcz98_4 hfz98_0 hfz98_1 hfz98_2 hfz98_3 hfz98_4
            obtain ⟨kq, HA, HJ125, HO_560003, HO_560004, BK558, BK559, HB⟩ := hcut
            cases kq with
            | zero => exact absurd HA.out (by simp [w23_ReplyBack.j4])
            | succ kj125 =>
             have H := HA.out
             clear HA
             simp only [w23_ReplyBack.j4] at H
             obtain ⟨⟨t591, t592⟩, A147, H⟩ := bs H
             try dsimp only at H
             obtain ⟨⟨t593, t594, t595, t598⟩, A148, H⟩ := bs H
             try dsimp only at H
             obtain ⟨⟨t600, t601, t602, t603, t606, t609⟩, A149, H⟩ := bs H
             try dsimp only at H
             by_cases c150 : t592 = 0
             ·
              rw [if_pos c150] at H
              have c150b0 : (t592 == 0) = true := beq_iff_eq.mpr c150
              have c150b1 : (t592 != 0) = false := bne_eq_false_iff_eq.mpr c150
              clear c150
              obtain ⟨t611, A151, H⟩ := bs H
              try dsimp only at H
              by_cases c152 : t611.toList = a2.toList
              ·
               rw [if_pos c152] at H
               have c152b0 : (t611.toList == a2.toList) = true := beq_iff_eq.mpr c152
               have c152b1 : (t611.toList != a2.toList) = false := bne_eq_false_iff_eq.mpr c152
               clear c152
               by_cases c153 : t598 = 0
               ·
                rw [if_pos c153] at H
                have c153b0 : (t598 == 0) = true := beq_iff_eq.mpr c153
                have c153b1 : (t598 != 0) = false := bne_eq_false_iff_eq.mpr c153
                clear c153
                obtain ⟨t612, A154, H⟩ := bs H
                try dsimp only at H
                by_cases c155 : t612.toList = a2.toList
                ·
                 rw [if_pos c155] at H
                 have c155b0 : (t612.toList == a2.toList) = true := beq_iff_eq.mpr c155
                 have c155b1 : (t612.toList != a2.toList) = false := bne_eq_false_iff_eq.mpr c155
                 clear c155
                 by_cases c156 : t609 = 0
                 ·
                  rw [if_pos c156] at H
                  have c156b0 : (t609 == 0) = true := beq_iff_eq.mpr c156
                  have c156b1 : (t609 != 0) = false := bne_eq_false_iff_eq.mpr c156
                  clear c156
                  obtain ⟨t613, A157, H⟩ := bs H
                  try dsimp only at H
                  obtain rfl := Option.some.inj H
                  go_wp2_with (first | (refine gL (some 134) rfl Tryz.func22 #[.string a2] ?_; (with_reducible refine (reply_ReadStored.calls (hL := ld) kj125 a2 t591 t592 _ A147.out).mono ?_); rintro e w158 ⟨rfl, hb⟩; refine ⟨_, rfl, ?_⟩; replace HO_560003 := cV HO_560003 hb; replace HO_560004 := cV HO_560004 hb; replace BK558 := cB BK558 hb; replace BK559 := cB BK559 hb; replace HB := Aside0.mk (below_step bl hb); (try clear hb)) | (refine gL (some 139) rfl Tryz.func24 #[.string a2] ?_; (with_reducible refine (reply_ReadRows.calls (hL := ld) kj125 a2 t593 t594 t595 t598 _ A148.out).mono ?_); rintro e w159 ⟨v596, rfl, ho0, hb⟩; refine ⟨_, rfl, ?_⟩; replace HO_560003 := Aside0.mk (Kd.V_elder' (uV HO_560003.out) (Kd.R_base ho0) hb); replace HO_560004 := Aside0.mk (Kd.V_elder' (uV HO_560004.out) (Kd.R_base ho0) hb); have HO597 := Aside0.mk (Kd.R_lower (Kd.R_newM (M := fun k_ => (w.heap.size ≤ k_)) ho0 (below_size bl) (fun k_ h_ => h_)) (below_size bl)); replace BK558 := cB BK558 hb; replace BK559 := cB BK559 hb; replace HB := Aside0.mk (below_step bl hb); (try clear hb); (try clear ho0)) | ((with_reducible refine gate_dst (N := 13) rfl ?_); (try (refine gate_guard (by rfl) ?_; dsimp only)); refine bx (N := 13) #[.int .i64 0, .int .i64 0, .slice none 0 0] 33 ?_; intro gb599 hg w160 hbox hb; replace HO_560003 := Aside0.mk (Kd.V_below (Kd.V_elderB (uV HO_560003.out) gb599 (Nat.le_of_eq hg.symm)) hb); replace HO_560004 := Aside0.mk (Kd.V_below (Kd.V_elderB (uV HO_560004.out) gb599 (Nat.le_of_eq hg.symm)) hb); replace HO597 := cR HO597 hb; have BK599 := Aside0.mk (hbox); have GW599 := gw hg bl; have GE599 := GW599; replace HB := Aside0.mk (below_step bl hb); have NB558_599 := nl BK558 hg; have NB599_558 := nr BK558 hg; replace BK558 := cB BK558 hb; have NB559_599 := nl BK559 hg; have NB599_559 := nr BK559 hg; replace BK559 := cB BK559 hb; clear hb hbox hg; have hnb161 := NB599_558.out; have hnc161 := NB558_599.out; have hnb162 := NB599_559.out; have hnc162 := NB559_599.out; obtain ⟨hcz163_0, hcz163_1, hcz163_2, hfz163_0, hfz163_1, hfz163_2⟩ := z3 BK599; obtain ⟨Ao164, co164, eo164⟩ := Kd.R_slice HO597.out; subst eo164) | (refine gL (some 144) rfl Tryz.func26 #[.string a2] ?_; (with_reducible refine (reply_ReadMessage.calls (hL := ld) kj125 a2 t600 t601 t602 t603 t606 t609 _ A149.out).mono ?_); rintro e w165 ⟨v604, v607, rfl, ho0, ho1, hb⟩; refine ⟨_, rfl, ?_⟩; replace HO_560003 := Aside0.mk (Kd.V_mono (Kd.V_told (Kd.V_told (Kd.V_old (by exact (Kd.V_mono (fV_ (Kd.V_mono HO_560003.out (fun k_ hk => (⟨hk, hk.2⟩ : _ ∧ k_ ≠ gb599))) fun _ h => h.2) (fun _ h_ => h_.1))) hb) (Kd.R_base ho0)) (Kd.R_base ho1)) (fun _ h_ => h_.1)); replace HO_560004 := Aside0.mk (Kd.V_mono (Kd.V_told (Kd.V_told (Kd.V_old (by exact (Kd.V_mono (fV_ (Kd.V_mono HO_560004.out (fun k_ hk => (⟨hk, hk.2⟩ : _ ∧ k_ ≠ gb599))) fun _ h => h.2) (fun _ h_ => h_.1))) hb) (Kd.R_base ho0)) (Kd.R_base ho1)) (fun _ h_ => h_.1)); have HO605 := Aside0.mk (Kd.R_lower (Kd.R_new' (Kd.R_newM (M := fun k_ => (w.heap.size ≤ k_)) ho0 (below_size bl) (fun k_ h_ => h_)) (Kd.R_lt (by exact (Kd.R_mono (fR_ (Kd.R_types HO597.out BK599.out (by decide)) fun _ h => h.2) (fun _ h_ => h_.1))))) (below_size bl)); replace HO597 := Aside0.mk (Kd.R_elder' (by exact (Kd.R_mono (fR_ (Kd.R_types HO597.out BK599.out (by decide)) fun _ h => h.2) (fun _ h_ => h_.1))) (Kd.R_base ho0) hb); have HO608 := Aside0.mk (Kd.R_lower (Kd.R_newM (M := fun k_ => (w.heap.size ≤ k_)) ho1 (below_size bl) (fun k_ h_ => h_)) (below_size bl)); replace BK558 := Aside0.mk (blk_below (g := gb558) (o := .cells #[.int .i64 a0_0, .int .i64 a0_1, .slice A0_2 l0_2.length c0_2] 33 (0, 0)) (fF BK558.out NB558_599) hb); replace BK559 := Aside0.mk (blk_below (g := gb559) (o := .cells #[.int .i64 a1_0, .int .i64 a1_1, .int .i64 a1_2, .slice A1_3 l1_3.length c1_3, .slice A1_4 l1_4.length c1_4] 36 (0, 0)) (fF BK559.out NB559_599) hb); replace BK599 := fcB BK599 hb; replace HB := Aside0.mk (below_step bl hb); (try clear hb); (try clear ho0); (try clear ho1)) | ((with_reducible refine gate_dst (N := 15) rfl ?_); (try (refine gate_guard (by rfl) ?_; dsimp only)); refine bx (N := 15) #[.int .i64 0, .int .i64 0, .int .i64 0, .slice none 0 0, .slice none 0 0] 36 ?_; intro gb610 hg w166 hbox hb; replace HO_560003 := Aside0.mk (Kd.V_below (Kd.V_elderB (uV HO_560003.out) gb610 (Nat.le_of_eq hg.symm)) hb); replace HO_560004 := Aside0.mk (Kd.V_below (Kd.V_elderB (uV HO_560004.out) gb610 (Nat.le_of_eq hg.symm)) hb); replace HO597 := cR HO597 hb; replace HO605 := cR HO605 hb; replace HO608 := cR HO608 hb; have BK610 := Aside0.mk (hbox); have GW610 := gw hg bl; have GE610 := GW610; replace HB := Aside0.mk (below_step bl hb); have NB558_610 := nl BK558 hg; have NB610_558 := nr BK558 hg; replace BK558 := cB BK558 hb; have NB559_610 := nl BK559 hg; have NB610_559 := nr BK559 hg; replace BK559 := cB BK559 hb; have NB599_610 := nl BK599 hg; have NB610_599 := nr BK599 hg; replace BK599 := cB BK599 hb; clear hb hbox hg; have hnb167 := NB610_558.out; have hnc167 := NB558_610.out; have hnb168 := NB610_559.out; have hnc168 := NB559_610.out; have hnb169 := NB610_599.out; have hnc169 := NB599_610.out; obtain ⟨hcz170_0, hcz170_1, hcz170_2, hcz170_3, hcz170_4, hfz170_0, hfz170_1, hfz170_2, hfz170_3, hfz170_4⟩ := z5 BK610; obtain ⟨Ao171, co171, eo171⟩ := Kd.R_slice HO605.out; subst eo171; obtain ⟨Ao172, co172, eo172⟩ := Kd.R_slice HO608.out; subst eo172) | ((with_reducible refine gate_store (t := 36) (p := 15) rfl ?_); refine store_event (t := 36) (p := 15) (v := ?vo_w173) (w1 := (((((w166.setCell ⟨gb610, 0, none⟩ (.int .i64 t600)).setCell ⟨gb610, 1, none⟩ (.int .i64 t601)).setCell ⟨gb610, 2, none⟩ (.int .i64 t602)).setCell ⟨gb610, 3, none⟩ (.slice Ao171 t603.length co171)).setCell ⟨gb610, 4, none⟩ (.slice Ao172 t606.length co172))) ?hg ?ho ?hn ?hr ?_; (case ho => rfl); (case hg => rfl); (case hn => rfl); (case hr => first | (go_simp; done) | (go_simp; rfl)); intro w173 hw; replace HO_560003 := fgNV (ok' := (fun k_ => ((P1_3_ k_ ∨ P1_4_ k_) ∨ w.heap.size ≤ k_) ∧ some k_ ≠ (.slice Ao164 t595.length co164 : Value).ownBlock ∧ some k_ ≠ (.slice Ao171 t603.length co171 : Value).ownBlock ∧ some k_ ≠ (.slice Ao172 t606.length co172 : Value).ownBlock ∧ k_ ≠ gb558 ∧ k_ ≠ gb559 ∧ k_ ≠ gb599 ∧ k_ ≠ gb610)) hw HO_560003 (fun k_ hk => (⟨hk, hk.2⟩ : _ ∧ k_ ≠ gb610)) (fun _ hk => ⟨hk.1.1.1.1.1.1.1, ⟨hk.1.1.1.1.1.2, ⟨hk.1.1.1.2, ⟨hk.1.1.2, ⟨hk.1.1.1.1.1.1.2.1, ⟨hk.1.1.1.1.1.1.2.2, ⟨hk.1.1.1.1.2, hk.1.2⟩⟩⟩⟩⟩⟩⟩); replace HO_560004 := fgNV (ok' := (fun k_ => ((P1_3_ k_ ∨ P1_4_ k_) ∨ w.heap.size ≤ k_) ∧ some k_ ≠ (.slice Ao164 t595.length co164 : Value).ownBlock ∧ some k_ ≠ (.slice Ao171 t603.length co171 : Value).ownBlock ∧ some k_ ≠ (.slice Ao172 t606.length co172 : Value).ownBlock ∧ k_ ≠ gb558 ∧ k_ ≠ gb559 ∧ k_ ≠ gb599 ∧ k_ ≠ gb610)) hw HO_560004 (fun k_ hk => (⟨hk, hk.2⟩ : _ ∧ k_ ≠ gb610)) (fun _ hk => ⟨hk.1.1.1.1.1.1.1, ⟨hk.1.1.1.1.1.2, ⟨hk.1.1.1.2, ⟨hk.1.1.2, ⟨hk.1.1.1.1.1.1.2.1, ⟨hk.1.1.1.1.1.1.2.2, ⟨hk.1.1.1.1.2, hk.1.2⟩⟩⟩⟩⟩⟩⟩); replace HO597 := fgR (ok' := (fun k_ => (w.heap.size ≤ k_) ∧ some k_ ≠ (.slice Ao171 t603.length co171 : Value).ownBlock)) hw HO597 BK610 (fun _ hk => ⟨hk.1.1.1, hk.1.2⟩); replace HO605 := fgR (ok' := (fun k_ => (w.heap.size ≤ k_) ∧ some k_ ≠ (.slice Ao164 t595.length co164 : Value).ownBlock)) hw HO605 BK610 (fun _ hk => ⟨hk.1.1.1, hk.1.2⟩); replace HO608 := fgR (ok' := (fun k_ => (w.heap.size ≤ k_))) hw HO608 BK610 (fun _ hk => hk.1.1); replace BK558 := fgF hw BK558 NB558_610; replace BK559 := fgF hw BK559 NB559_610; replace BK599 := fgF hw BK599 NB599_610; replace HB : Aside0 (Below w.heap.size w w173) := fgW hw bl; replace BK610 := fgB hw BK610; clear hw) | (go_at_call 10; (with_reducible refine (reply_Stored.calls (hL := ld) t591 t611 _ A151.out).mono ?_); rintro e w174 ⟨rfl, hb⟩; replace HO_560003 := cV HO_560003 hb; replace HO_560004 := cV HO_560004 hb; replace HO597 := cR HO597 hb; replace HO605 := cR HO605 hb; replace HO608 := cR HO608 hb; replace BK558 := cB BK558 hb; replace BK559 := cB BK559 hb; replace BK599 := cB BK599 hb; replace BK610 := cB BK610 hb; replace HB := Aside0.mk (below_step bl hb); (try clear hb); obtain ⟨hcz175_0, hcz175_1, hcz175_2, hfz175_0, hfz175_1, hfz175_2⟩ := z3 BK599) | (go_at_call 18; (with_reducible refine (reply_Rows.calls (hL := ld) kj125 t593 t594 _ _ t595 t612 _ ?side1 ?side2 A154.out).mono ?_); (case side1 => exact uC <| (Kd.R_reads' HO597.out).2.2); (case side2 => exact (Kd.R_reads' HO597.out).2.1); rintro e w176 ⟨rfl, hb⟩; replace HO_560003 := cV HO_560003 hb; replace HO_560004 := cV HO_560004 hb; replace HO597 := cR HO597 hb; replace HO605 := cR HO605 hb; replace HO608 := cR HO608 hb; replace BK558 := cB BK558 hb; replace BK559 := cB BK559 hb; replace BK599 := cB BK599 hb; replace BK610 := cB BK610 hb; replace HB := Aside0.mk (below_step bl hb); (try clear hb); obtain ⟨hcz177_0, hcz177_1, hcz177_2, hcz177_3, hcz177_4, hfz177_0, hfz177_1, hfz177_2, hfz177_3, hfz177_4⟩ := z5 BK610) | (go_at_call 20; (with_reducible refine (reply_Message.calls (hL := ld) kj125 t600 t601 t602 _ _ t603 _ _ t606 t613 _ ?side1 ?side2 ?side3 ?side4 A157.out).mono ?_); (case side1 => exact uC <| (Kd.R_reads' HO605.out).2.2); (case side2 => exact (Kd.R_reads' HO605.out).2.1); (case side3 => exact uC <| (Kd.R_reads' HO608.out).2.2); (case side4 => exact (Kd.R_reads' HO608.out).2.1); rintro e w178 ⟨rfl, hb⟩; replace HO_560003 := cV HO_560003 hb; replace HO_560004 := cV HO_560004 hb; replace HO597 := cR HO597 hb; replace HO605 := cR HO605 hb; replace HO608 := cR HO608 hb; replace BK558 := cB BK558 hb; replace BK559 := cB BK559 hb; replace BK599 := cB BK599 hb; replace BK610 := cB BK610 hb; replace HB := Aside0.mk (below_step bl hb); (try clear hb)))
                  go_ret
                  exact ⟨re_, bl⟩
                 ·
                  rw [if_neg c156] at H
                  have c156b0 : (t609 == 0) = false := beq_eq_false_iff_ne.mpr c156
                  have c156b1 : (t609 != 0) = true := bne_iff_ne.mpr c156
                  obtain rfl := Option.some.inj H
                  go_wp2_with (first | (refine gL (some 134) rfl Tryz.func22 #[.string a2] ?_; (with_reducible refine (reply_ReadStored.calls (hL := ld) kj125 a2 t591 t592 _ A147.out).mono ?_); rintro e w179 ⟨rfl, hb⟩; refine ⟨_, rfl, ?_⟩; replace HO_560003 := cV HO_560003 hb; replace HO_560004 := cV HO_560004 hb; replace BK558 := cB BK558 hb; replace BK559 := cB BK559 hb; replace HB := Aside0.mk (below_step bl hb); (try clear hb)) | (refine gL (some 139) rfl Tryz.func24 #[.string a2] ?_; (with_reducible refine (reply_ReadRows.calls (hL := ld) kj125 a2 t593 t594 t595 t598 _ A148.out).mono ?_); rintro e w180 ⟨v596, rfl, ho0, hb⟩; refine ⟨_, rfl, ?_⟩; replace HO_560003 := Aside0.mk (Kd.V_elder' (uV HO_560003.out) (Kd.R_base ho0) hb); replace HO_560004 := Aside0.mk (Kd.V_elder' (uV HO_560004.out) (Kd.R_base ho0) hb); have HO597 := Aside0.mk (Kd.R_lower (Kd.R_newM (M := fun k_ => (w.heap.size ≤ k_)) ho0 (below_size bl) (fun k_ h_ => h_)) (below_size bl)); replace BK558 := cB BK558 hb; replace BK559 := cB BK559 hb; replace HB := Aside0.mk (below_step bl hb); (try clear hb); (try clear ho0)) | ((with_reducible refine gate_dst (N := 13) rfl ?_); (try (refine gate_guard (by rfl) ?_; dsimp only)); refine bx (N := 13) #[.int .i64 0, .int .i64 0, .slice none 0 0] 33 ?_; intro gb599 hg w181 hbox hb; replace HO_560003 := Aside0.mk (Kd.V_below (Kd.V_elderB (uV HO_560003.out) gb599 (Nat.le_of_eq hg.symm)) hb); replace HO_560004 := Aside0.mk (Kd.V_below (Kd.V_elderB (uV HO_560004.out) gb599 (Nat.le_of_eq hg.symm)) hb); replace HO597 := cR HO597 hb; have BK599 := Aside0.mk (hbox); have GW599 := gw hg bl; have GE599 := GW599; replace HB := Aside0.mk (below_step bl hb); have NB558_599 := nl BK558 hg; have NB599_558 := nr BK558 hg; replace BK558 := cB BK558 hb; have NB559_599 := nl BK559 hg; have NB599_559 := nr BK559 hg; replace BK559 := cB BK559 hb; clear hb hbox hg; have hnb182 := NB599_558.out; have hnc182 := NB558_599.out; have hnb183 := NB599_559.out; have hnc183 := NB559_599.out; obtain ⟨hcz184_0, hcz184_1, hcz184_2, hfz184_0, hfz184_1, hfz184_2⟩ := z3 BK599; obtain ⟨Ao185, co185, eo185⟩ := Kd.R_slice HO597.out; subst eo185) | (refine gL (some 144) rfl Tryz.func26 #[.string a2] ?_; (with_reducible refine (reply_ReadMessage.calls (hL := ld) kj125 a2 t600 t601 t602 t603 t606 t609 _ A149.out).mono ?_); rintro e w186 ⟨v604, v607, rfl, ho0, ho1, hb⟩; refine ⟨_, rfl, ?_⟩; replace HO_560003 := Aside0.mk (Kd.V_mono (Kd.V_told (Kd.V_told (Kd.V_old (by exact (Kd.V_mono (fV_ (Kd.V_mono HO_560003.out (fun k_ hk => (⟨hk, hk.2⟩ : _ ∧ k_ ≠ gb599))) fun _ h => h.2) (fun _ h_ => h_.1))) hb) (Kd.R_base ho0)) (Kd.R_base ho1)) (fun _ h_ => h_.1)); replace HO_560004 := Aside0.mk (Kd.V_mono (Kd.V_told (Kd.V_told (Kd.V_old (by exact (Kd.V_mono (fV_ (Kd.V_mono HO_560004.out (fun k_ hk => (⟨hk, hk.2⟩ : _ ∧ k_ ≠ gb599))) fun _ h => h.2) (fun _ h_ => h_.1))) hb) (Kd.R_base ho0)) (Kd.R_base ho1)) (fun _ h_ => h_.1)); have HO605 := Aside0.mk (Kd.R_lower (Kd.R_new' (Kd.R_newM (M := fun k_ => (w.heap.size ≤ k_)) ho0 (below_size bl) (fun k_ h_ => h_)) (Kd.R_lt (by exact (Kd.R_mono (fR_ (Kd.R_types HO597.out BK599.out (by decide)) fun _ h => h.2) (fun _ h_ => h_.1))))) (below_size bl)); replace HO597 := Aside0.mk (Kd.R_elder' (by exact (Kd.R_mono (fR_ (Kd.R_types HO597.out BK599.out (by decide)) fun _ h => h.2) (fun _ h_ => h_.1))) (Kd.R_base ho0) hb); have HO608 := Aside0.mk (Kd.R_lower (Kd.R_newM (M := fun k_ => (w.heap.size ≤ k_)) ho1 (below_size bl) (fun k_ h_ => h_)) (below_size bl)); replace BK558 := Aside0.mk (blk_below (g := gb558) (o := .cells #[.int .i64 a0_0, .int .i64 a0_1, .slice A0_2 l0_2.length c0_2] 33 (0, 0)) (fF BK558.out NB558_599) hb); replace BK559 := Aside0.mk (blk_below (g := gb559) (o := .cells #[.int .i64 a1_0, .int .i64 a1_1, .int .i64 a1_2, .slice A1_3 l1_3.length c1_3, .slice A1_4 l1_4.length c1_4] 36 (0, 0)) (fF BK559.out NB559_599) hb); replace BK599 := fcB BK599 hb; replace HB := Aside0.mk (below_step bl hb); (try clear hb); (try clear ho0); (try clear ho1)) | ((with_reducible refine gate_dst (N := 15) rfl ?_); (try (refine gate_guard (by rfl) ?_; dsimp only)); refine bx (N := 15) #[.int .i64 0, .int .i64 0, .int .i64 0, .slice none 0 0, .slice none 0 0] 36 ?_; intro gb610 hg w187 hbox hb; replace HO_560003 := Aside0.mk (Kd.V_below (Kd.V_elderB (uV HO_560003.out) gb610 (Nat.le_of_eq hg.symm)) hb); replace HO_560004 := Aside0.mk (Kd.V_below (Kd.V_elderB (uV HO_560004.out) gb610 (Nat.le_of_eq hg.symm)) hb); replace HO597 := cR HO597 hb; replace HO605 := cR HO605 hb; replace HO608 := cR HO608 hb; have BK610 := Aside0.mk (hbox); have GW610 := gw hg bl; have GE610 := GW610; replace HB := Aside0.mk (below_step bl hb); have NB558_610 := nl BK558 hg; have NB610_558 := nr BK558 hg; replace BK558 := cB BK558 hb; have NB559_610 := nl BK559 hg; have NB610_559 := nr BK559 hg; replace BK559 := cB BK559 hb; have NB599_610 := nl BK599 hg; have NB610_599 := nr BK599 hg; replace BK599 := cB BK599 hb; clear hb hbox hg; have hnb188 := NB610_558.out; have hnc188 := NB558_610.out; have hnb189 := NB610_559.out; have hnc189 := NB559_610.out; have hnb190 := NB610_599.out; have hnc190 := NB599_610.out; obtain ⟨hcz191_0, hcz191_1, hcz191_2, hcz191_3, hcz191_4, hfz191_0, hfz191_1, hfz191_2, hfz191_3, hfz191_4⟩ := z5 BK610; obtain ⟨Ao192, co192, eo192⟩ := Kd.R_slice HO605.out; subst eo192; obtain ⟨Ao193, co193, eo193⟩ := Kd.R_slice HO608.out; subst eo193) | ((with_reducible refine gate_store (t := 36) (p := 15) rfl ?_); refine store_event (t := 36) (p := 15) (v := ?vo_w194) (w1 := (((((w187.setCell ⟨gb610, 0, none⟩ (.int .i64 t600)).setCell ⟨gb610, 1, none⟩ (.int .i64 t601)).setCell ⟨gb610, 2, none⟩ (.int .i64 t602)).setCell ⟨gb610, 3, none⟩ (.slice Ao192 t603.length co192)).setCell ⟨gb610, 4, none⟩ (.slice Ao193 t606.length co193))) ?hg ?ho ?hn ?hr ?_; (case ho => rfl); (case hg => rfl); (case hn => rfl); (case hr => first | (go_simp; done) | (go_simp; rfl)); intro w194 hw; replace HO_560003 := fgNV (ok' := (fun k_ => ((P1_3_ k_ ∨ P1_4_ k_) ∨ w.heap.size ≤ k_) ∧ some k_ ≠ (.slice Ao185 t595.length co185 : Value).ownBlock ∧ some k_ ≠ (.slice Ao192 t603.length co192 : Value).ownBlock ∧ some k_ ≠ (.slice Ao193 t606.length co193 : Value).ownBlock ∧ k_ ≠ gb558 ∧ k_ ≠ gb559 ∧ k_ ≠ gb599 ∧ k_ ≠ gb610)) hw HO_560003 (fun k_ hk => (⟨hk, hk.2⟩ : _ ∧ k_ ≠ gb610)) (fun _ hk => ⟨hk.1.1.1.1.1.1.1, ⟨hk.1.1.1.1.1.2, ⟨hk.1.1.1.2, ⟨hk.1.1.2, ⟨hk.1.1.1.1.1.1.2.1, ⟨hk.1.1.1.1.1.1.2.2, ⟨hk.1.1.1.1.2, hk.1.2⟩⟩⟩⟩⟩⟩⟩); replace HO_560004 := fgNV (ok' := (fun k_ => ((P1_3_ k_ ∨ P1_4_ k_) ∨ w.heap.size ≤ k_) ∧ some k_ ≠ (.slice Ao185 t595.length co185 : Value).ownBlock ∧ some k_ ≠ (.slice Ao192 t603.length co192 : Value).ownBlock ∧ some k_ ≠ (.slice Ao193 t606.length co193 : Value).ownBlock ∧ k_ ≠ gb558 ∧ k_ ≠ gb559 ∧ k_ ≠ gb599 ∧ k_ ≠ gb610)) hw HO_560004 (fun k_ hk => (⟨hk, hk.2⟩ : _ ∧ k_ ≠ gb610)) (fun _ hk => ⟨hk.1.1.1.1.1.1.1, ⟨hk.1.1.1.1.1.2, ⟨hk.1.1.1.2, ⟨hk.1.1.2, ⟨hk.1.1.1.1.1.1.2.1, ⟨hk.1.1.1.1.1.1.2.2, ⟨hk.1.1.1.1.2, hk.1.2⟩⟩⟩⟩⟩⟩⟩); replace HO597 := fgR (ok' := (fun k_ => (w.heap.size ≤ k_) ∧ some k_ ≠ (.slice Ao192 t603.length co192 : Value).ownBlock)) hw HO597 BK610 (fun _ hk => ⟨hk.1.1.1, hk.1.2⟩); replace HO605 := fgR (ok' := (fun k_ => (w.heap.size ≤ k_) ∧ some k_ ≠ (.slice Ao185 t595.length co185 : Value).ownBlock)) hw HO605 BK610 (fun _ hk => ⟨hk.1.1.1, hk.1.2⟩); replace HO608 := fgR (ok' := (fun k_ => (w.heap.size ≤ k_))) hw HO608 BK610 (fun _ hk => hk.1.1); replace BK558 := fgF hw BK558 NB558_610; replace BK559 := fgF hw BK559 NB559_610; replace BK599 := fgF hw BK599 NB599_610; replace HB : Aside0 (Below w.heap.size w w194) := fgW hw bl; replace BK610 := fgB hw BK610; clear hw) | (go_at_call 10; (with_reducible refine (reply_Stored.calls (hL := ld) t591 t611 _ A151.out).mono ?_); rintro e w195 ⟨rfl, hb⟩; replace HO_560003 := cV HO_560003 hb; replace HO_560004 := cV HO_560004 hb; replace HO597 := cR HO597 hb; replace HO605 := cR HO605 hb; replace HO608 := cR HO608 hb; replace BK558 := cB BK558 hb; replace BK559 := cB BK559 hb; replace BK599 := cB BK599 hb; replace BK610 := cB BK610 hb; replace HB := Aside0.mk (below_step bl hb); (try clear hb); obtain ⟨hcz196_0, hcz196_1, hcz196_2, hfz196_0, hfz196_1, hfz196_2⟩ := z3 BK599) | (go_at_call 18; (with_reducible refine (reply_Rows.calls (hL := ld) kj125 t593 t594 _ _ t595 t612 _ ?side1 ?side2 A154.out).mono ?_); (case side1 => exact uC <| (Kd.R_reads' HO597.out).2.2); (case side2 => exact (Kd.R_reads' HO597.out).2.1); rintro e w197 ⟨rfl, hb⟩; replace HO_560003 := cV HO_560003 hb; replace HO_560004 := cV HO_560004 hb; replace HO597 := cR HO597 hb; replace HO605 := cR HO605 hb; replace HO608 := cR HO608 hb; replace BK558 := cB BK558 hb; replace BK559 := cB BK559 hb; replace BK599 := cB BK599 hb; replace BK610 := cB BK610 hb; replace HB := Aside0.mk (below_step bl hb); (try clear hb)))
                  go_ret
                  exact ⟨re_, bl⟩
                ·
                 rw [if_neg c155] at H
                 exact absurd H (by simp)
               ·
                rw [if_neg c153] at H
                have c153b0 : (t598 == 0) = false := beq_eq_false_iff_ne.mpr c153
                have c153b1 : (t598 != 0) = true := bne_iff_ne.mpr c153
                by_cases c198 : t609 = 0
                ·
                 rw [if_pos c198] at H
                 have c198b0 : (t609 == 0) = true := beq_iff_eq.mpr c198
                 have c198b1 : (t609 != 0) = false := bne_eq_false_iff_eq.mpr c198
                 clear c198
                 obtain ⟨t614, A199, H⟩ := bs H
                 try dsimp only at H
                 obtain rfl := Option.some.inj H
                 go_wp2_with (first | (refine gL (some 134) rfl Tryz.func22 #[.string a2] ?_; (with_reducible refine (reply_ReadStored.calls (hL := ld) kj125 a2 t591 t592 _ A147.out).mono ?_); rintro e w200 ⟨rfl, hb⟩; refine ⟨_, rfl, ?_⟩; replace HO_560003 := cV HO_560003 hb; replace HO_560004 := cV HO_560004 hb; replace BK558 := cB BK558 hb; replace BK559 := cB BK559 hb; replace HB := Aside0.mk (below_step bl hb); (try clear hb)) | (refine gL (some 139) rfl Tryz.func24 #[.string a2] ?_; (with_reducible refine (reply_ReadRows.calls (hL := ld) kj125 a2 t593 t594 t595 t598 _ A148.out).mono ?_); rintro e w201 ⟨v596, rfl, ho0, hb⟩; refine ⟨_, rfl, ?_⟩; replace HO_560003 := Aside0.mk (Kd.V_elder' (uV HO_560003.out) (Kd.R_base ho0) hb); replace HO_560004 := Aside0.mk (Kd.V_elder' (uV HO_560004.out) (Kd.R_base ho0) hb); have HO597 := Aside0.mk (Kd.R_lower (Kd.R_newM (M := fun k_ => (w.heap.size ≤ k_)) ho0 (below_size bl) (fun k_ h_ => h_)) (below_size bl)); replace BK558 := cB BK558 hb; replace BK559 := cB BK559 hb; replace HB := Aside0.mk (below_step bl hb); (try clear hb); (try clear ho0)) | ((with_reducible refine gate_dst (N := 13) rfl ?_); (try (refine gate_guard (by rfl) ?_; dsimp only)); refine bx (N := 13) #[.int .i64 0, .int .i64 0, .slice none 0 0] 33 ?_; intro gb599 hg w202 hbox hb; replace HO_560003 := Aside0.mk (Kd.V_below (Kd.V_elderB (uV HO_560003.out) gb599 (Nat.le_of_eq hg.symm)) hb); replace HO_560004 := Aside0.mk (Kd.V_below (Kd.V_elderB (uV HO_560004.out) gb599 (Nat.le_of_eq hg.symm)) hb); replace HO597 := cR HO597 hb; have BK599 := Aside0.mk (hbox); have GW599 := gw hg bl; have GE599 := GW599; replace HB := Aside0.mk (below_step bl hb); have NB558_599 := nl BK558 hg; have NB599_558 := nr BK558 hg; replace BK558 := cB BK558 hb; have NB559_599 := nl BK559 hg; have NB599_559 := nr BK559 hg; replace BK559 := cB BK559 hb; clear hb hbox hg; have hnb203 := NB599_558.out; have hnc203 := NB558_599.out; have hnb204 := NB599_559.out; have hnc204 := NB559_599.out; obtain ⟨hcz205_0, hcz205_1, hcz205_2, hfz205_0, hfz205_1, hfz205_2⟩ := z3 BK599; obtain ⟨Ao206, co206, eo206⟩ := Kd.R_slice HO597.out; subst eo206) | (refine gL (some 144) rfl Tryz.func26 #[.string a2] ?_; (with_reducible refine (reply_ReadMessage.calls (hL := ld) kj125 a2 t600 t601 t602 t603 t606 t609 _ A149.out).mono ?_); rintro e w207 ⟨v604, v607, rfl, ho0, ho1, hb⟩; refine ⟨_, rfl, ?_⟩; replace HO_560003 := Aside0.mk (Kd.V_mono (Kd.V_told (Kd.V_told (Kd.V_old (by exact (Kd.V_mono (fV_ (Kd.V_mono HO_560003.out (fun k_ hk => (⟨hk, hk.2⟩ : _ ∧ k_ ≠ gb599))) fun _ h => h.2) (fun _ h_ => h_.1))) hb) (Kd.R_base ho0)) (Kd.R_base ho1)) (fun _ h_ => h_.1)); replace HO_560004 := Aside0.mk (Kd.V_mono (Kd.V_told (Kd.V_told (Kd.V_old (by exact (Kd.V_mono (fV_ (Kd.V_mono HO_560004.out (fun k_ hk => (⟨hk, hk.2⟩ : _ ∧ k_ ≠ gb599))) fun _ h => h.2) (fun _ h_ => h_.1))) hb) (Kd.R_base ho0)) (Kd.R_base ho1)) (fun _ h_ => h_.1)); have HO605 := Aside0.mk (Kd.R_lower (Kd.R_new' (Kd.R_newM (M := fun k_ => (w.heap.size ≤ k_)) ho0 (below_size bl) (fun k_ h_ => h_)) (Kd.R_lt (by exact (Kd.R_mono (fR_ (Kd.R_types HO597.out BK599.out (by decide)) fun _ h => h.2) (fun _ h_ => h_.1))))) (below_size bl)); replace HO597 := Aside0.mk (Kd.R_elder' (by exact (Kd.R_mono (fR_ (Kd.R_types HO597.out BK599.out (by decide)) fun _ h => h.2) (fun _ h_ => h_.1))) (Kd.R_base ho0) hb); have HO608 := Aside0.mk (Kd.R_lower (Kd.R_newM (M := fun k_ => (w.heap.size ≤ k_)) ho1 (below_size bl) (fun k_ h_ => h_)) (below_size bl)); replace BK558 := Aside0.mk (blk_below (g := gb558) (o := .cells #[.int .i64 a0_0, .int .i64 a0_1, .slice A0_2 l0_2.length c0_2] 33 (0, 0)) (fF BK558.out NB558_599) hb); replace BK559 := Aside0.mk (blk_below (g := gb559) (o := .cells #[.int .i64 a1_0, .int .i64 a1_1, .int .i64 a1_2, .slice A1_3 l1_3.length c1_3, .slice A1_4 l1_4.length c1_4] 36 (0, 0)) (fF BK559.out NB559_599) hb); replace BK599 := fcB BK599 hb; replace HB := Aside0.mk (below_step bl hb); (try clear hb); (try clear ho0); (try clear ho1)) | ((with_reducible refine gate_dst (N := 15) rfl ?_); (try (refine gate_guard (by rfl) ?_; dsimp only)); refine bx (N := 15) #[.int .i64 0, .int .i64 0, .int .i64 0, .slice none 0 0, .slice none 0 0] 36 ?_; intro gb610 hg w208 hbox hb; replace HO_560003 := Aside0.mk (Kd.V_below (Kd.V_elderB (uV HO_560003.out) gb610 (Nat.le_of_eq hg.symm)) hb); replace HO_560004 := Aside0.mk (Kd.V_below (Kd.V_elderB (uV HO_560004.out) gb610 (Nat.le_of_eq hg.symm)) hb); replace HO597 := cR HO597 hb; replace HO605 := cR HO605 hb; replace HO608 := cR HO608 hb; have BK610 := Aside0.mk (hbox); have GW610 := gw hg bl; have GE610 := GW610; replace HB := Aside0.mk (below_step bl hb); have NB558_610 := nl BK558 hg; have NB610_558 := nr BK558 hg; replace BK558 := cB BK558 hb; have NB559_610 := nl BK559 hg; have NB610_559 := nr BK559 hg; replace BK559 := cB BK559 hb; have NB599_610 := nl BK599 hg; have NB610_599 := nr BK599 hg; replace BK599 := cB BK599 hb; clear hb hbox hg; have hnb209 := NB610_558.out; have hnc209 := NB558_610.out; have hnb210 := NB610_559.out; have hnc210 := NB559_610.out; have hnb211 := NB610_599.out; have hnc211 := NB599_610.out; obtain ⟨hcz212_0, hcz212_1, hcz212_2, hcz212_3, hcz212_4, hfz212_0, hfz212_1, hfz212_2, hfz212_3, hfz212_4⟩ := z5 BK610; obtain ⟨Ao213, co213, eo213⟩ := Kd.R_slice HO605.out; subst eo213; obtain ⟨Ao214, co214, eo214⟩ := Kd.R_slice HO608.out; subst eo214) | ((with_reducible refine gate_store (t := 36) (p := 15) rfl ?_); refine store_event (t := 36) (p := 15) (v := ?vo_w215) (w1 := (((((w208.setCell ⟨gb610, 0, none⟩ (.int .i64 t600)).setCell ⟨gb610, 1, none⟩ (.int .i64 t601)).setCell ⟨gb610, 2, none⟩ (.int .i64 t602)).setCell ⟨gb610, 3, none⟩ (.slice Ao213 t603.length co213)).setCell ⟨gb610, 4, none⟩ (.slice Ao214 t606.length co214))) ?hg ?ho ?hn ?hr ?_; (case ho => rfl); (case hg => rfl); (case hn => rfl); (case hr => first | (go_simp; done) | (go_simp; rfl)); intro w215 hw; replace HO_560003 := fgNV (ok' := (fun k_ => ((P1_3_ k_ ∨ P1_4_ k_) ∨ w.heap.size ≤ k_) ∧ some k_ ≠ (.slice Ao206 t595.length co206 : Value).ownBlock ∧ some k_ ≠ (.slice Ao213 t603.length co213 : Value).ownBlock ∧ some k_ ≠ (.slice Ao214 t606.length co214 : Value).ownBlock ∧ k_ ≠ gb558 ∧ k_ ≠ gb559 ∧ k_ ≠ gb599 ∧ k_ ≠ gb610)) hw HO_560003 (fun k_ hk => (⟨hk, hk.2⟩ : _ ∧ k_ ≠ gb610)) (fun _ hk => ⟨hk.1.1.1.1.1.1.1, ⟨hk.1.1.1.1.1.2, ⟨hk.1.1.1.2, ⟨hk.1.1.2, ⟨hk.1.1.1.1.1.1.2.1, ⟨hk.1.1.1.1.1.1.2.2, ⟨hk.1.1.1.1.2, hk.1.2⟩⟩⟩⟩⟩⟩⟩); replace HO_560004 := fgNV (ok' := (fun k_ => ((P1_3_ k_ ∨ P1_4_ k_) ∨ w.heap.size ≤ k_) ∧ some k_ ≠ (.slice Ao206 t595.length co206 : Value).ownBlock ∧ some k_ ≠ (.slice Ao213 t603.length co213 : Value).ownBlock ∧ some k_ ≠ (.slice Ao214 t606.length co214 : Value).ownBlock ∧ k_ ≠ gb558 ∧ k_ ≠ gb559 ∧ k_ ≠ gb599 ∧ k_ ≠ gb610)) hw HO_560004 (fun k_ hk => (⟨hk, hk.2⟩ : _ ∧ k_ ≠ gb610)) (fun _ hk => ⟨hk.1.1.1.1.1.1.1, ⟨hk.1.1.1.1.1.2, ⟨hk.1.1.1.2, ⟨hk.1.1.2, ⟨hk.1.1.1.1.1.1.2.1, ⟨hk.1.1.1.1.1.1.2.2, ⟨hk.1.1.1.1.2, hk.1.2⟩⟩⟩⟩⟩⟩⟩); replace HO597 := fgR (ok' := (fun k_ => (w.heap.size ≤ k_) ∧ some k_ ≠ (.slice Ao213 t603.length co213 : Value).ownBlock)) hw HO597 BK610 (fun _ hk => ⟨hk.1.1.1, hk.1.2⟩); replace HO605 := fgR (ok' := (fun k_ => (w.heap.size ≤ k_) ∧ some k_ ≠ (.slice Ao206 t595.length co206 : Value).ownBlock)) hw HO605 BK610 (fun _ hk => ⟨hk.1.1.1, hk.1.2⟩); replace HO608 := fgR (ok' := (fun k_ => (w.heap.size ≤ k_))) hw HO608 BK610 (fun _ hk => hk.1.1); replace BK558 := fgF hw BK558 NB558_610; replace BK559 := fgF hw BK559 NB559_610; replace BK599 := fgF hw BK599 NB599_610; replace HB : Aside0 (Below w.heap.size w w215) := fgW hw bl; replace BK610 := fgB hw BK610; clear hw) | (go_at_call 10; (with_reducible refine (reply_Stored.calls (hL := ld) t591 t611 _ A151.out).mono ?_); rintro e w216 ⟨rfl, hb⟩; replace HO_560003 := cV HO_560003 hb; replace HO_560004 := cV HO_560004 hb; replace HO597 := cR HO597 hb; replace HO605 := cR HO605 hb; replace HO608 := cR HO608 hb; replace BK558 := cB BK558 hb; replace BK559 := cB BK559 hb; replace BK599 := cB BK599 hb; replace BK610 := cB BK610 hb; replace HB := Aside0.mk (below_step bl hb); (try clear hb); obtain ⟨hcz217_0, hcz217_1, hcz217_2, hcz217_3, hcz217_4, hfz217_0, hfz217_1, hfz217_2, hfz217_3, hfz217_4⟩ := z5 BK610) | (go_at_call 20; (with_reducible refine (reply_Message.calls (hL := ld) kj125 t600 t601 t602 _ _ t603 _ _ t606 t614 _ ?side1 ?side2 ?side3 ?side4 A199.out).mono ?_); (case side1 => exact uC <| (Kd.R_reads' HO605.out).2.2); (case side2 => exact (Kd.R_reads' HO605.out).2.1); (case side3 => exact uC <| (Kd.R_reads' HO608.out).2.2); (case side4 => exact (Kd.R_reads' HO608.out).2.1); rintro e w218 ⟨rfl, hb⟩; replace HO_560003 := cV HO_560003 hb; replace HO_560004 := cV HO_560004 hb; replace HO597 := cR HO597 hb; replace HO605 := cR HO605 hb; replace HO608 := cR HO608 hb; replace BK558 := cB BK558 hb; replace BK559 := cB BK559 hb; replace BK599 := cB BK599 hb; replace BK610 := cB BK610 hb; replace HB := Aside0.mk (below_step bl hb); (try clear hb)))
                 go_ret
                 exact ⟨re_, bl⟩
                ·
                 rw [if_neg c198] at H
                 have c198b0 : (t609 == 0) = false := beq_eq_false_iff_ne.mpr c198
                 have c198b1 : (t609 != 0) = true := bne_iff_ne.mpr c198
                 obtain rfl := Option.some.inj H
                 go_wp2_with (first | (refine gL (some 134) rfl Tryz.func22 #[.string a2] ?_; (with_reducible refine (reply_ReadStored.calls (hL := ld) kj125 a2 t591 t592 _ A147.out).mono ?_); rintro e w219 ⟨rfl, hb⟩; refine ⟨_, rfl, ?_⟩; replace HO_560003 := cV HO_560003 hb; replace HO_560004 := cV HO_560004 hb; replace BK558 := cB BK558 hb; replace BK559 := cB BK559 hb; replace HB := Aside0.mk (below_step bl hb); (try clear hb)) | (refine gL (some 139) rfl Tryz.func24 #[.string a2] ?_; (with_reducible refine (reply_ReadRows.calls (hL := ld) kj125 a2 t593 t594 t595 t598 _ A148.out).mono ?_); rintro e w220 ⟨v596, rfl, ho0, hb⟩; refine ⟨_, rfl, ?_⟩; replace HO_560003 := Aside0.mk (Kd.V_elder' (uV HO_560003.out) (Kd.R_base ho0) hb); replace HO_560004 := Aside0.mk (Kd.V_elder' (uV HO_560004.out) (Kd.R_base ho0) hb); have HO597 := Aside0.mk (Kd.R_lower (Kd.R_newM (M := fun k_ => (w.heap.size ≤ k_)) ho0 (below_size bl) (fun k_ h_ => h_)) (below_size bl)); replace BK558 := cB BK558 hb; replace BK559 := cB BK559 hb; replace HB := Aside0.mk (below_step bl hb); (try clear hb); (try clear ho0)) | ((with_reducible refine gate_dst (N := 13) rfl ?_); (try (refine gate_guard (by rfl) ?_; dsimp only)); refine bx (N := 13) #[.int .i64 0, .int .i64 0, .slice none 0 0] 33 ?_; intro gb599 hg w221 hbox hb; replace HO_560003 := Aside0.mk (Kd.V_below (Kd.V_elderB (uV HO_560003.out) gb599 (Nat.le_of_eq hg.symm)) hb); replace HO_560004 := Aside0.mk (Kd.V_below (Kd.V_elderB (uV HO_560004.out) gb599 (Nat.le_of_eq hg.symm)) hb); replace HO597 := cR HO597 hb; have BK599 := Aside0.mk (hbox); have GW599 := gw hg bl; have GE599 := GW599; replace HB := Aside0.mk (below_step bl hb); have NB558_599 := nl BK558 hg; have NB599_558 := nr BK558 hg; replace BK558 := cB BK558 hb; have NB559_599 := nl BK559 hg; have NB599_559 := nr BK559 hg; replace BK559 := cB BK559 hb; clear hb hbox hg; have hnb222 := NB599_558.out; have hnc222 := NB558_599.out; have hnb223 := NB599_559.out; have hnc223 := NB559_599.out; obtain ⟨hcz224_0, hcz224_1, hcz224_2, hfz224_0, hfz224_1, hfz224_2⟩ := z3 BK599; obtain ⟨Ao225, co225, eo225⟩ := Kd.R_slice HO597.out; subst eo225) | (refine gL (some 144) rfl Tryz.func26 #[.string a2] ?_; (with_reducible refine (reply_ReadMessage.calls (hL := ld) kj125 a2 t600 t601 t602 t603 t606 t609 _ A149.out).mono ?_); rintro e w226 ⟨v604, v607, rfl, ho0, ho1, hb⟩; refine ⟨_, rfl, ?_⟩; replace HO_560003 := Aside0.mk (Kd.V_mono (Kd.V_told (Kd.V_told (Kd.V_old (by exact (Kd.V_mono (fV_ (Kd.V_mono HO_560003.out (fun k_ hk => (⟨hk, hk.2⟩ : _ ∧ k_ ≠ gb599))) fun _ h => h.2) (fun _ h_ => h_.1))) hb) (Kd.R_base ho0)) (Kd.R_base ho1)) (fun _ h_ => h_.1)); replace HO_560004 := Aside0.mk (Kd.V_mono (Kd.V_told (Kd.V_told (Kd.V_old (by exact (Kd.V_mono (fV_ (Kd.V_mono HO_560004.out (fun k_ hk => (⟨hk, hk.2⟩ : _ ∧ k_ ≠ gb599))) fun _ h => h.2) (fun _ h_ => h_.1))) hb) (Kd.R_base ho0)) (Kd.R_base ho1)) (fun _ h_ => h_.1)); have HO605 := Aside0.mk (Kd.R_lower (Kd.R_new' (Kd.R_newM (M := fun k_ => (w.heap.size ≤ k_)) ho0 (below_size bl) (fun k_ h_ => h_)) (Kd.R_lt (by exact (Kd.R_mono (fR_ (Kd.R_types HO597.out BK599.out (by decide)) fun _ h => h.2) (fun _ h_ => h_.1))))) (below_size bl)); replace HO597 := Aside0.mk (Kd.R_elder' (by exact (Kd.R_mono (fR_ (Kd.R_types HO597.out BK599.out (by decide)) fun _ h => h.2) (fun _ h_ => h_.1))) (Kd.R_base ho0) hb); have HO608 := Aside0.mk (Kd.R_lower (Kd.R_newM (M := fun k_ => (w.heap.size ≤ k_)) ho1 (below_size bl) (fun k_ h_ => h_)) (below_size bl)); replace BK558 := Aside0.mk (blk_below (g := gb558) (o := .cells #[.int .i64 a0_0, .int .i64 a0_1, .slice A0_2 l0_2.length c0_2] 33 (0, 0)) (fF BK558.out NB558_599) hb); replace BK559 := Aside0.mk (blk_below (g := gb559) (o := .cells #[.int .i64 a1_0, .int .i64 a1_1, .int .i64 a1_2, .slice A1_3 l1_3.length c1_3, .slice A1_4 l1_4.length c1_4] 36 (0, 0)) (fF BK559.out NB559_599) hb); replace BK599 := fcB BK599 hb; replace HB := Aside0.mk (below_step bl hb); (try clear hb); (try clear ho0); (try clear ho1)) | ((with_reducible refine gate_dst (N := 15) rfl ?_); (try (refine gate_guard (by rfl) ?_; dsimp only)); refine bx (N := 15) #[.int .i64 0, .int .i64 0, .int .i64 0, .slice none 0 0, .slice none 0 0] 36 ?_; intro gb610 hg w227 hbox hb; replace HO_560003 := Aside0.mk (Kd.V_below (Kd.V_elderB (uV HO_560003.out) gb610 (Nat.le_of_eq hg.symm)) hb); replace HO_560004 := Aside0.mk (Kd.V_below (Kd.V_elderB (uV HO_560004.out) gb610 (Nat.le_of_eq hg.symm)) hb); replace HO597 := cR HO597 hb; replace HO605 := cR HO605 hb; replace HO608 := cR HO608 hb; have BK610 := Aside0.mk (hbox); have GW610 := gw hg bl; have GE610 := GW610; replace HB := Aside0.mk (below_step bl hb); have NB558_610 := nl BK558 hg; have NB610_558 := nr BK558 hg; replace BK558 := cB BK558 hb; have NB559_610 := nl BK559 hg; have NB610_559 := nr BK559 hg; replace BK559 := cB BK559 hb; have NB599_610 := nl BK599 hg; have NB610_599 := nr BK599 hg; replace BK599 := cB BK599 hb; clear hb hbox hg; have hnb228 := NB610_558.out; have hnc228 := NB558_610.out; have hnb229 := NB610_559.out; have hnc229 := NB559_610.out; have hnb230 := NB610_599.out; have hnc230 := NB599_610.out; obtain ⟨hcz231_0, hcz231_1, hcz231_2, hcz231_3, hcz231_4, hfz231_0, hfz231_1, hfz231_2, hfz231_3, hfz231_4⟩ := z5 BK610; obtain ⟨Ao232, co232, eo232⟩ := Kd.R_slice HO605.out; subst eo232; obtain ⟨Ao233, co233, eo233⟩ := Kd.R_slice HO608.out; subst eo233) | ((with_reducible refine gate_store (t := 36) (p := 15) rfl ?_); refine store_event (t := 36) (p := 15) (v := ?vo_w234) (w1 := (((((w227.setCell ⟨gb610, 0, none⟩ (.int .i64 t600)).setCell ⟨gb610, 1, none⟩ (.int .i64 t601)).setCell ⟨gb610, 2, none⟩ (.int .i64 t602)).setCell ⟨gb610, 3, none⟩ (.slice Ao232 t603.length co232)).setCell ⟨gb610, 4, none⟩ (.slice Ao233 t606.length co233))) ?hg ?ho ?hn ?hr ?_; (case ho => rfl); (case hg => rfl); (case hn => rfl); (case hr => first | (go_simp; done) | (go_simp; rfl)); intro w234 hw; replace HO_560003 := fgNV (ok' := (fun k_ => ((P1_3_ k_ ∨ P1_4_ k_) ∨ w.heap.size ≤ k_) ∧ some k_ ≠ (.slice Ao225 t595.length co225 : Value).ownBlock ∧ some k_ ≠ (.slice Ao232 t603.length co232 : Value).ownBlock ∧ some k_ ≠ (.slice Ao233 t606.length co233 : Value).ownBlock ∧ k_ ≠ gb558 ∧ k_ ≠ gb559 ∧ k_ ≠ gb599 ∧ k_ ≠ gb610)) hw HO_560003 (fun k_ hk => (⟨hk, hk.2⟩ : _ ∧ k_ ≠ gb610)) (fun _ hk => ⟨hk.1.1.1.1.1.1.1, ⟨hk.1.1.1.1.1.2, ⟨hk.1.1.1.2, ⟨hk.1.1.2, ⟨hk.1.1.1.1.1.1.2.1, ⟨hk.1.1.1.1.1.1.2.2, ⟨hk.1.1.1.1.2, hk.1.2⟩⟩⟩⟩⟩⟩⟩); replace HO_560004 := fgNV (ok' := (fun k_ => ((P1_3_ k_ ∨ P1_4_ k_) ∨ w.heap.size ≤ k_) ∧ some k_ ≠ (.slice Ao225 t595.length co225 : Value).ownBlock ∧ some k_ ≠ (.slice Ao232 t603.length co232 : Value).ownBlock ∧ some k_ ≠ (.slice Ao233 t606.length co233 : Value).ownBlock ∧ k_ ≠ gb558 ∧ k_ ≠ gb559 ∧ k_ ≠ gb599 ∧ k_ ≠ gb610)) hw HO_560004 (fun k_ hk => (⟨hk, hk.2⟩ : _ ∧ k_ ≠ gb610)) (fun _ hk => ⟨hk.1.1.1.1.1.1.1, ⟨hk.1.1.1.1.1.2, ⟨hk.1.1.1.2, ⟨hk.1.1.2, ⟨hk.1.1.1.1.1.1.2.1, ⟨hk.1.1.1.1.1.1.2.2, ⟨hk.1.1.1.1.2, hk.1.2⟩⟩⟩⟩⟩⟩⟩); replace HO597 := fgR (ok' := (fun k_ => (w.heap.size ≤ k_) ∧ some k_ ≠ (.slice Ao232 t603.length co232 : Value).ownBlock)) hw HO597 BK610 (fun _ hk => ⟨hk.1.1.1, hk.1.2⟩); replace HO605 := fgR (ok' := (fun k_ => (w.heap.size ≤ k_) ∧ some k_ ≠ (.slice Ao225 t595.length co225 : Value).ownBlock)) hw HO605 BK610 (fun _ hk => ⟨hk.1.1.1, hk.1.2⟩); replace HO608 := fgR (ok' := (fun k_ => (w.heap.size ≤ k_))) hw HO608 BK610 (fun _ hk => hk.1.1); replace BK558 := fgF hw BK558 NB558_610; replace BK559 := fgF hw BK559 NB559_610; replace BK599 := fgF hw BK599 NB599_610; replace HB : Aside0 (Below w.heap.size w w234) := fgW hw bl; replace BK610 := fgB hw BK610; clear hw) | (go_at_call 10; (with_reducible refine (reply_Stored.calls (hL := ld) t591 t611 _ A151.out).mono ?_); rintro e w235 ⟨rfl, hb⟩; replace HO_560003 := cV HO_560003 hb; replace HO_560004 := cV HO_560004 hb; replace HO597 := cR HO597 hb; replace HO605 := cR HO605 hb; replace HO608 := cR HO608 hb; replace BK558 := cB BK558 hb; replace BK559 := cB BK559 hb; replace BK599 := cB BK599 hb; replace BK610 := cB BK610 hb; replace HB := Aside0.mk (below_step bl hb); (try clear hb)))
                 go_ret
                 exact ⟨re_, bl⟩
              ·
               rw [if_neg c152] at H
               exact absurd H (by simp)
             ·
              rw [if_neg c150] at H
              have c150b0 : (t592 == 0) = false := beq_eq_false_iff_ne.mpr c150
              have c150b1 : (t592 != 0) = true := bne_iff_ne.mpr c150
              by_cases c236 : t598 = 0
              ·
               rw [if_pos c236] at H
               have c236b0 : (t598 == 0) = true := beq_iff_eq.mpr c236
               have c236b1 : (t598 != 0) = false := bne_eq_false_iff_eq.mpr c236
               clear c236
               obtain ⟨t615, A237, H⟩ := bs H
               try dsimp only at H
               by_cases c238 : t615.toList = a2.toList
               ·
                rw [if_pos c238] at H
                have c238b0 : (t615.toList == a2.toList) = true := beq_iff_eq.mpr c238
                have c238b1 : (t615.toList != a2.toList) = false := bne_eq_false_iff_eq.mpr c238
                clear c238
                by_cases c239 : t609 = 0
                ·
                 rw [if_pos c239] at H
                 have c239b0 : (t609 == 0) = true := beq_iff_eq.mpr c239
                 have c239b1 : (t609 != 0) = false := bne_eq_false_iff_eq.mpr c239
                 clear c239
                 obtain ⟨t616, A240, H⟩ := bs H
                 try dsimp only at H
                 obtain rfl := Option.some.inj H
                 go_wp2_with (first | (refine gL (some 134) rfl Tryz.func22 #[.string a2] ?_; (with_reducible refine (reply_ReadStored.calls (hL := ld) kj125 a2 t591 t592 _ A147.out).mono ?_); rintro e w241 ⟨rfl, hb⟩; refine ⟨_, rfl, ?_⟩; replace HO_560003 := cV HO_560003 hb; replace HO_560004 := cV HO_560004 hb; replace BK558 := cB BK558 hb; replace BK559 := cB BK559 hb; replace HB := Aside0.mk (below_step bl hb); (try clear hb)) | (refine gL (some 139) rfl Tryz.func24 #[.string a2] ?_; (with_reducible refine (reply_ReadRows.calls (hL := ld) kj125 a2 t593 t594 t595 t598 _ A148.out).mono ?_); rintro e w242 ⟨v596, rfl, ho0, hb⟩; refine ⟨_, rfl, ?_⟩; replace HO_560003 := Aside0.mk (Kd.V_elder' (uV HO_560003.out) (Kd.R_base ho0) hb); replace HO_560004 := Aside0.mk (Kd.V_elder' (uV HO_560004.out) (Kd.R_base ho0) hb); have HO597 := Aside0.mk (Kd.R_lower (Kd.R_newM (M := fun k_ => (w.heap.size ≤ k_)) ho0 (below_size bl) (fun k_ h_ => h_)) (below_size bl)); replace BK558 := cB BK558 hb; replace BK559 := cB BK559 hb; replace HB := Aside0.mk (below_step bl hb); (try clear hb); (try clear ho0)) | ((with_reducible refine gate_dst (N := 13) rfl ?_); (try (refine gate_guard (by rfl) ?_; dsimp only)); refine bx (N := 13) #[.int .i64 0, .int .i64 0, .slice none 0 0] 33 ?_; intro gb599 hg w243 hbox hb; replace HO_560003 := Aside0.mk (Kd.V_below (Kd.V_elderB (uV HO_560003.out) gb599 (Nat.le_of_eq hg.symm)) hb); replace HO_560004 := Aside0.mk (Kd.V_below (Kd.V_elderB (uV HO_560004.out) gb599 (Nat.le_of_eq hg.symm)) hb); replace HO597 := cR HO597 hb; have BK599 := Aside0.mk (hbox); have GW599 := gw hg bl; have GE599 := GW599; replace HB := Aside0.mk (below_step bl hb); have NB558_599 := nl BK558 hg; have NB599_558 := nr BK558 hg; replace BK558 := cB BK558 hb; have NB559_599 := nl BK559 hg; have NB599_559 := nr BK559 hg; replace BK559 := cB BK559 hb; clear hb hbox hg; have hnb244 := NB599_558.out; have hnc244 := NB558_599.out; have hnb245 := NB599_559.out; have hnc245 := NB559_599.out; obtain ⟨hcz246_0, hcz246_1, hcz246_2, hfz246_0, hfz246_1, hfz246_2⟩ := z3 BK599; obtain ⟨Ao247, co247, eo247⟩ := Kd.R_slice HO597.out; subst eo247) | (refine gL (some 144) rfl Tryz.func26 #[.string a2] ?_; (with_reducible refine (reply_ReadMessage.calls (hL := ld) kj125 a2 t600 t601 t602 t603 t606 t609 _ A149.out).mono ?_); rintro e w248 ⟨v604, v607, rfl, ho0, ho1, hb⟩; refine ⟨_, rfl, ?_⟩; replace HO_560003 := Aside0.mk (Kd.V_mono (Kd.V_told (Kd.V_told (Kd.V_old (by exact (Kd.V_mono (fV_ (Kd.V_mono HO_560003.out (fun k_ hk => (⟨hk, hk.2⟩ : _ ∧ k_ ≠ gb599))) fun _ h => h.2) (fun _ h_ => h_.1))) hb) (Kd.R_base ho0)) (Kd.R_base ho1)) (fun _ h_ => h_.1)); replace HO_560004 := Aside0.mk (Kd.V_mono (Kd.V_told (Kd.V_told (Kd.V_old (by exact (Kd.V_mono (fV_ (Kd.V_mono HO_560004.out (fun k_ hk => (⟨hk, hk.2⟩ : _ ∧ k_ ≠ gb599))) fun _ h => h.2) (fun _ h_ => h_.1))) hb) (Kd.R_base ho0)) (Kd.R_base ho1)) (fun _ h_ => h_.1)); have HO605 := Aside0.mk (Kd.R_lower (Kd.R_new' (Kd.R_newM (M := fun k_ => (w.heap.size ≤ k_)) ho0 (below_size bl) (fun k_ h_ => h_)) (Kd.R_lt (by exact (Kd.R_mono (fR_ (Kd.R_types HO597.out BK599.out (by decide)) fun _ h => h.2) (fun _ h_ => h_.1))))) (below_size bl)); replace HO597 := Aside0.mk (Kd.R_elder' (by exact (Kd.R_mono (fR_ (Kd.R_types HO597.out BK599.out (by decide)) fun _ h => h.2) (fun _ h_ => h_.1))) (Kd.R_base ho0) hb); have HO608 := Aside0.mk (Kd.R_lower (Kd.R_newM (M := fun k_ => (w.heap.size ≤ k_)) ho1 (below_size bl) (fun k_ h_ => h_)) (below_size bl)); replace BK558 := Aside0.mk (blk_below (g := gb558) (o := .cells #[.int .i64 a0_0, .int .i64 a0_1, .slice A0_2 l0_2.length c0_2] 33 (0, 0)) (fF BK558.out NB558_599) hb); replace BK559 := Aside0.mk (blk_below (g := gb559) (o := .cells #[.int .i64 a1_0, .int .i64 a1_1, .int .i64 a1_2, .slice A1_3 l1_3.length c1_3, .slice A1_4 l1_4.length c1_4] 36 (0, 0)) (fF BK559.out NB559_599) hb); replace BK599 := fcB BK599 hb; replace HB := Aside0.mk (below_step bl hb); (try clear hb); (try clear ho0); (try clear ho1)) | ((with_reducible refine gate_dst (N := 15) rfl ?_); (try (refine gate_guard (by rfl) ?_; dsimp only)); refine bx (N := 15) #[.int .i64 0, .int .i64 0, .int .i64 0, .slice none 0 0, .slice none 0 0] 36 ?_; intro gb610 hg w249 hbox hb; replace HO_560003 := Aside0.mk (Kd.V_below (Kd.V_elderB (uV HO_560003.out) gb610 (Nat.le_of_eq hg.symm)) hb); replace HO_560004 := Aside0.mk (Kd.V_below (Kd.V_elderB (uV HO_560004.out) gb610 (Nat.le_of_eq hg.symm)) hb); replace HO597 := cR HO597 hb; replace HO605 := cR HO605 hb; replace HO608 := cR HO608 hb; have BK610 := Aside0.mk (hbox); have GW610 := gw hg bl; have GE610 := GW610; replace HB := Aside0.mk (below_step bl hb); have NB558_610 := nl BK558 hg; have NB610_558 := nr BK558 hg; replace BK558 := cB BK558 hb; have NB559_610 := nl BK559 hg; have NB610_559 := nr BK559 hg; replace BK559 := cB BK559 hb; have NB599_610 := nl BK599 hg; have NB610_599 := nr BK599 hg; replace BK599 := cB BK599 hb; clear hb hbox hg; have hnb250 := NB610_558.out; have hnc250 := NB558_610.out; have hnb251 := NB610_559.out; have hnc251 := NB559_610.out; have hnb252 := NB610_599.out; have hnc252 := NB599_610.out; obtain ⟨hcz253_0, hcz253_1, hcz253_2, hcz253_3, hcz253_4, hfz253_0, hfz253_1, hfz253_2, hfz253_3, hfz253_4⟩ := z5 BK610; obtain ⟨Ao254, co254, eo254⟩ := Kd.R_slice HO605.out; subst eo254; obtain ⟨Ao255, co255, eo255⟩ := Kd.R_slice HO608.out; subst eo255) | ((with_reducible refine gate_store (t := 36) (p := 15) rfl ?_); refine store_event (t := 36) (p := 15) (v := ?vo_w256) (w1 := (((((w249.setCell ⟨gb610, 0, none⟩ (.int .i64 t600)).setCell ⟨gb610, 1, none⟩ (.int .i64 t601)).setCell ⟨gb610, 2, none⟩ (.int .i64 t602)).setCell ⟨gb610, 3, none⟩ (.slice Ao254 t603.length co254)).setCell ⟨gb610, 4, none⟩ (.slice Ao255 t606.length co255))) ?hg ?ho ?hn ?hr ?_; (case ho => rfl); (case hg => rfl); (case hn => rfl); (case hr => first | (go_simp; done) | (go_simp; rfl)); intro w256 hw; replace HO_560003 := fgNV (ok' := (fun k_ => ((P1_3_ k_ ∨ P1_4_ k_) ∨ w.heap.size ≤ k_) ∧ some k_ ≠ (.slice Ao247 t595.length co247 : Value).ownBlock ∧ some k_ ≠ (.slice Ao254 t603.length co254 : Value).ownBlock ∧ some k_ ≠ (.slice Ao255 t606.length co255 : Value).ownBlock ∧ k_ ≠ gb558 ∧ k_ ≠ gb559 ∧ k_ ≠ gb599 ∧ k_ ≠ gb610)) hw HO_560003 (fun k_ hk => (⟨hk, hk.2⟩ : _ ∧ k_ ≠ gb610)) (fun _ hk => ⟨hk.1.1.1.1.1.1.1, ⟨hk.1.1.1.1.1.2, ⟨hk.1.1.1.2, ⟨hk.1.1.2, ⟨hk.1.1.1.1.1.1.2.1, ⟨hk.1.1.1.1.1.1.2.2, ⟨hk.1.1.1.1.2, hk.1.2⟩⟩⟩⟩⟩⟩⟩); replace HO_560004 := fgNV (ok' := (fun k_ => ((P1_3_ k_ ∨ P1_4_ k_) ∨ w.heap.size ≤ k_) ∧ some k_ ≠ (.slice Ao247 t595.length co247 : Value).ownBlock ∧ some k_ ≠ (.slice Ao254 t603.length co254 : Value).ownBlock ∧ some k_ ≠ (.slice Ao255 t606.length co255 : Value).ownBlock ∧ k_ ≠ gb558 ∧ k_ ≠ gb559 ∧ k_ ≠ gb599 ∧ k_ ≠ gb610)) hw HO_560004 (fun k_ hk => (⟨hk, hk.2⟩ : _ ∧ k_ ≠ gb610)) (fun _ hk => ⟨hk.1.1.1.1.1.1.1, ⟨hk.1.1.1.1.1.2, ⟨hk.1.1.1.2, ⟨hk.1.1.2, ⟨hk.1.1.1.1.1.1.2.1, ⟨hk.1.1.1.1.1.1.2.2, ⟨hk.1.1.1.1.2, hk.1.2⟩⟩⟩⟩⟩⟩⟩); replace HO597 := fgR (ok' := (fun k_ => (w.heap.size ≤ k_) ∧ some k_ ≠ (.slice Ao254 t603.length co254 : Value).ownBlock)) hw HO597 BK610 (fun _ hk => ⟨hk.1.1.1, hk.1.2⟩); replace HO605 := fgR (ok' := (fun k_ => (w.heap.size ≤ k_) ∧ some k_ ≠ (.slice Ao247 t595.length co247 : Value).ownBlock)) hw HO605 BK610 (fun _ hk => ⟨hk.1.1.1, hk.1.2⟩); replace HO608 := fgR (ok' := (fun k_ => (w.heap.size ≤ k_))) hw HO608 BK610 (fun _ hk => hk.1.1); replace BK558 := fgF hw BK558 NB558_610; replace BK559 := fgF hw BK559 NB559_610; replace BK599 := fgF hw BK599 NB599_610; replace HB : Aside0 (Below w.heap.size w w256) := fgW hw bl; replace BK610 := fgB hw BK610; clear hw; obtain ⟨hcz257_0, hcz257_1, hcz257_2, hfz257_0, hfz257_1, hfz257_2⟩ := z3 BK599) | (go_at_call 18; (with_reducible refine (reply_Rows.calls (hL := ld) kj125 t593 t594 _ _ t595 t615 _ ?side1 ?side2 A237.out).mono ?_); (case side1 => exact uC <| (Kd.R_reads' HO597.out).2.2); (case side2 => exact (Kd.R_reads' HO597.out).2.1); rintro e w258 ⟨rfl, hb⟩; replace HO_560003 := cV HO_560003 hb; replace HO_560004 := cV HO_560004 hb; replace HO597 := cR HO597 hb; replace HO605 := cR HO605 hb; replace HO608 := cR HO608 hb; replace BK558 := cB BK558 hb; replace BK559 := cB BK559 hb; replace BK599 := cB BK599 hb; replace BK610 := cB BK610 hb; replace HB := Aside0.mk (below_step bl hb); (try clear hb); obtain ⟨hcz259_0, hcz259_1, hcz259_2, hcz259_3, hcz259_4, hfz259_0, hfz259_1, hfz259_2, hfz259_3, hfz259_4⟩ := z5 BK610) | (go_at_call 20; (with_reducible refine (reply_Message.calls (hL := ld) kj125 t600 t601 t602 _ _ t603 _ _ t606 t616 _ ?side1 ?side2 ?side3 ?side4 A240.out).mono ?_); (case side1 => exact uC <| (Kd.R_reads' HO605.out).2.2); (case side2 => exact (Kd.R_reads' HO605.out).2.1); (case side3 => exact uC <| (Kd.R_reads' HO608.out).2.2); (case side4 => exact (Kd.R_reads' HO608.out).2.1); rintro e w260 ⟨rfl, hb⟩; replace HO_560003 := cV HO_560003 hb; replace HO_560004 := cV HO_560004 hb; replace HO597 := cR HO597 hb; replace HO605 := cR HO605 hb; replace HO608 := cR HO608 hb; replace BK558 := cB BK558 hb; replace BK559 := cB BK559 hb; replace BK599 := cB BK599 hb; replace BK610 := cB BK610 hb; replace HB := Aside0.mk (below_step bl hb); (try clear hb)))
                 go_ret
                 exact ⟨re_, bl⟩
                ·
                 rw [if_neg c239] at H
                 have c239b0 : (t609 == 0) = false := beq_eq_false_iff_ne.mpr c239
                 have c239b1 : (t609 != 0) = true := bne_iff_ne.mpr c239
                 obtain rfl := Option.some.inj H
                 go_wp2_with (first | (refine gL (some 134) rfl Tryz.func22 #[.string a2] ?_; (with_reducible refine (reply_ReadStored.calls (hL := ld) kj125 a2 t591 t592 _ A147.out).mono ?_); rintro e w261 ⟨rfl, hb⟩; refine ⟨_, rfl, ?_⟩; replace HO_560003 := cV HO_560003 hb; replace HO_560004 := cV HO_560004 hb; replace BK558 := cB BK558 hb; replace BK559 := cB BK559 hb; replace HB := Aside0.mk (below_step bl hb); (try clear hb)) | (refine gL (some 139) rfl Tryz.func24 #[.string a2] ?_; (with_reducible refine (reply_ReadRows.calls (hL := ld) kj125 a2 t593 t594 t595 t598 _ A148.out).mono ?_); rintro e w262 ⟨v596, rfl, ho0, hb⟩; refine ⟨_, rfl, ?_⟩; replace HO_560003 := Aside0.mk (Kd.V_elder' (uV HO_560003.out) (Kd.R_base ho0) hb); replace HO_560004 := Aside0.mk (Kd.V_elder' (uV HO_560004.out) (Kd.R_base ho0) hb); have HO597 := Aside0.mk (Kd.R_lower (Kd.R_newM (M := fun k_ => (w.heap.size ≤ k_)) ho0 (below_size bl) (fun k_ h_ => h_)) (below_size bl)); replace BK558 := cB BK558 hb; replace BK559 := cB BK559 hb; replace HB := Aside0.mk (below_step bl hb); (try clear hb); (try clear ho0)) | ((with_reducible refine gate_dst (N := 13) rfl ?_); (try (refine gate_guard (by rfl) ?_; dsimp only)); refine bx (N := 13) #[.int .i64 0, .int .i64 0, .slice none 0 0] 33 ?_; intro gb599 hg w263 hbox hb; replace HO_560003 := Aside0.mk (Kd.V_below (Kd.V_elderB (uV HO_560003.out) gb599 (Nat.le_of_eq hg.symm)) hb); replace HO_560004 := Aside0.mk (Kd.V_below (Kd.V_elderB (uV HO_560004.out) gb599 (Nat.le_of_eq hg.symm)) hb); replace HO597 := cR HO597 hb; have BK599 := Aside0.mk (hbox); have GW599 := gw hg bl; have GE599 := GW599; replace HB := Aside0.mk (below_step bl hb); have NB558_599 := nl BK558 hg; have NB599_558 := nr BK558 hg; replace BK558 := cB BK558 hb; have NB559_599 := nl BK559 hg; have NB599_559 := nr BK559 hg; replace BK559 := cB BK559 hb; clear hb hbox hg; have hnb264 := NB599_558.out; have hnc264 := NB558_599.out; have hnb265 := NB599_559.out; have hnc265 := NB559_599.out; obtain ⟨hcz266_0, hcz266_1, hcz266_2, hfz266_0, hfz266_1, hfz266_2⟩ := z3 BK599; obtain ⟨Ao267, co267, eo267⟩ := Kd.R_slice HO597.out; subst eo267) | (refine gL (some 144) rfl Tryz.func26 #[.string a2] ?_; (with_reducible refine (reply_ReadMessage.calls (hL := ld) kj125 a2 t600 t601 t602 t603 t606 t609 _ A149.out).mono ?_); rintro e w268 ⟨v604, v607, rfl, ho0, ho1, hb⟩; refine ⟨_, rfl, ?_⟩; replace HO_560003 := Aside0.mk (Kd.V_mono (Kd.V_told (Kd.V_told (Kd.V_old (by exact (Kd.V_mono (fV_ (Kd.V_mono HO_560003.out (fun k_ hk => (⟨hk, hk.2⟩ : _ ∧ k_ ≠ gb599))) fun _ h => h.2) (fun _ h_ => h_.1))) hb) (Kd.R_base ho0)) (Kd.R_base ho1)) (fun _ h_ => h_.1)); replace HO_560004 := Aside0.mk (Kd.V_mono (Kd.V_told (Kd.V_told (Kd.V_old (by exact (Kd.V_mono (fV_ (Kd.V_mono HO_560004.out (fun k_ hk => (⟨hk, hk.2⟩ : _ ∧ k_ ≠ gb599))) fun _ h => h.2) (fun _ h_ => h_.1))) hb) (Kd.R_base ho0)) (Kd.R_base ho1)) (fun _ h_ => h_.1)); have HO605 := Aside0.mk (Kd.R_lower (Kd.R_new' (Kd.R_newM (M := fun k_ => (w.heap.size ≤ k_)) ho0 (below_size bl) (fun k_ h_ => h_)) (Kd.R_lt (by exact (Kd.R_mono (fR_ (Kd.R_types HO597.out BK599.out (by decide)) fun _ h => h.2) (fun _ h_ => h_.1))))) (below_size bl)); replace HO597 := Aside0.mk (Kd.R_elder' (by exact (Kd.R_mono (fR_ (Kd.R_types HO597.out BK599.out (by decide)) fun _ h => h.2) (fun _ h_ => h_.1))) (Kd.R_base ho0) hb); have HO608 := Aside0.mk (Kd.R_lower (Kd.R_newM (M := fun k_ => (w.heap.size ≤ k_)) ho1 (below_size bl) (fun k_ h_ => h_)) (below_size bl)); replace BK558 := Aside0.mk (blk_below (g := gb558) (o := .cells #[.int .i64 a0_0, .int .i64 a0_1, .slice A0_2 l0_2.length c0_2] 33 (0, 0)) (fF BK558.out NB558_599) hb); replace BK559 := Aside0.mk (blk_below (g := gb559) (o := .cells #[.int .i64 a1_0, .int .i64 a1_1, .int .i64 a1_2, .slice A1_3 l1_3.length c1_3, .slice A1_4 l1_4.length c1_4] 36 (0, 0)) (fF BK559.out NB559_599) hb); replace BK599 := fcB BK599 hb; replace HB := Aside0.mk (below_step bl hb); (try clear hb); (try clear ho0); (try clear ho1)) | ((with_reducible refine gate_dst (N := 15) rfl ?_); (try (refine gate_guard (by rfl) ?_; dsimp only)); refine bx (N := 15) #[.int .i64 0, .int .i64 0, .int .i64 0, .slice none 0 0, .slice none 0 0] 36 ?_; intro gb610 hg w269 hbox hb; replace HO_560003 := Aside0.mk (Kd.V_below (Kd.V_elderB (uV HO_560003.out) gb610 (Nat.le_of_eq hg.symm)) hb); replace HO_560004 := Aside0.mk (Kd.V_below (Kd.V_elderB (uV HO_560004.out) gb610 (Nat.le_of_eq hg.symm)) hb); replace HO597 := cR HO597 hb; replace HO605 := cR HO605 hb; replace HO608 := cR HO608 hb; have BK610 := Aside0.mk (hbox); have GW610 := gw hg bl; have GE610 := GW610; replace HB := Aside0.mk (below_step bl hb); have NB558_610 := nl BK558 hg; have NB610_558 := nr BK558 hg; replace BK558 := cB BK558 hb; have NB559_610 := nl BK559 hg; have NB610_559 := nr BK559 hg; replace BK559 := cB BK559 hb; have NB599_610 := nl BK599 hg; have NB610_599 := nr BK599 hg; replace BK599 := cB BK599 hb; clear hb hbox hg; have hnb270 := NB610_558.out; have hnc270 := NB558_610.out; have hnb271 := NB610_559.out; have hnc271 := NB559_610.out; have hnb272 := NB610_599.out; have hnc272 := NB599_610.out; obtain ⟨hcz273_0, hcz273_1, hcz273_2, hcz273_3, hcz273_4, hfz273_0, hfz273_1, hfz273_2, hfz273_3, hfz273_4⟩ := z5 BK610; obtain ⟨Ao274, co274, eo274⟩ := Kd.R_slice HO605.out; subst eo274; obtain ⟨Ao275, co275, eo275⟩ := Kd.R_slice HO608.out; subst eo275) | ((with_reducible refine gate_store (t := 36) (p := 15) rfl ?_); refine store_event (t := 36) (p := 15) (v := ?vo_w276) (w1 := (((((w269.setCell ⟨gb610, 0, none⟩ (.int .i64 t600)).setCell ⟨gb610, 1, none⟩ (.int .i64 t601)).setCell ⟨gb610, 2, none⟩ (.int .i64 t602)).setCell ⟨gb610, 3, none⟩ (.slice Ao274 t603.length co274)).setCell ⟨gb610, 4, none⟩ (.slice Ao275 t606.length co275))) ?hg ?ho ?hn ?hr ?_; (case ho => rfl); (case hg => rfl); (case hn => rfl); (case hr => first | (go_simp; done) | (go_simp; rfl)); intro w276 hw; replace HO_560003 := fgNV (ok' := (fun k_ => ((P1_3_ k_ ∨ P1_4_ k_) ∨ w.heap.size ≤ k_) ∧ some k_ ≠ (.slice Ao267 t595.length co267 : Value).ownBlock ∧ some k_ ≠ (.slice Ao274 t603.length co274 : Value).ownBlock ∧ some k_ ≠ (.slice Ao275 t606.length co275 : Value).ownBlock ∧ k_ ≠ gb558 ∧ k_ ≠ gb559 ∧ k_ ≠ gb599 ∧ k_ ≠ gb610)) hw HO_560003 (fun k_ hk => (⟨hk, hk.2⟩ : _ ∧ k_ ≠ gb610)) (fun _ hk => ⟨hk.1.1.1.1.1.1.1, ⟨hk.1.1.1.1.1.2, ⟨hk.1.1.1.2, ⟨hk.1.1.2, ⟨hk.1.1.1.1.1.1.2.1, ⟨hk.1.1.1.1.1.1.2.2, ⟨hk.1.1.1.1.2, hk.1.2⟩⟩⟩⟩⟩⟩⟩); replace HO_560004 := fgNV (ok' := (fun k_ => ((P1_3_ k_ ∨ P1_4_ k_) ∨ w.heap.size ≤ k_) ∧ some k_ ≠ (.slice Ao267 t595.length co267 : Value).ownBlock ∧ some k_ ≠ (.slice Ao274 t603.length co274 : Value).ownBlock ∧ some k_ ≠ (.slice Ao275 t606.length co275 : Value).ownBlock ∧ k_ ≠ gb558 ∧ k_ ≠ gb559 ∧ k_ ≠ gb599 ∧ k_ ≠ gb610)) hw HO_560004 (fun k_ hk => (⟨hk, hk.2⟩ : _ ∧ k_ ≠ gb610)) (fun _ hk => ⟨hk.1.1.1.1.1.1.1, ⟨hk.1.1.1.1.1.2, ⟨hk.1.1.1.2, ⟨hk.1.1.2, ⟨hk.1.1.1.1.1.1.2.1, ⟨hk.1.1.1.1.1.1.2.2, ⟨hk.1.1.1.1.2, hk.1.2⟩⟩⟩⟩⟩⟩⟩); replace HO597 := fgR (ok' := (fun k_ => (w.heap.size ≤ k_) ∧ some k_ ≠ (.slice Ao274 t603.length co274 : Value).ownBlock)) hw HO597 BK610 (fun _ hk => ⟨hk.1.1.1, hk.1.2⟩); replace HO605 := fgR (ok' := (fun k_ => (w.heap.size ≤ k_) ∧ some k_ ≠ (.slice Ao267 t595.length co267 : Value).ownBlock)) hw HO605 BK610 (fun _ hk => ⟨hk.1.1.1, hk.1.2⟩); replace HO608 := fgR (ok' := (fun k_ => (w.heap.size ≤ k_))) hw HO608 BK610 (fun _ hk => hk.1.1); replace BK558 := fgF hw BK558 NB558_610; replace BK559 := fgF hw BK559 NB559_610; replace BK599 := fgF hw BK599 NB599_610; replace HB : Aside0 (Below w.heap.size w w276) := fgW hw bl; replace BK610 := fgB hw BK610; clear hw; obtain ⟨hcz277_0, hcz277_1, hcz277_2, hfz277_0, hfz277_1, hfz277_2⟩ := z3 BK599) | (go_at_call 18; (with_reducible refine (reply_Rows.calls (hL := ld) kj125 t593 t594 _ _ t595 t615 _ ?side1 ?side2 A237.out).mono ?_); (case side1 => exact uC <| (Kd.R_reads' HO597.out).2.2); (case side2 => exact (Kd.R_reads' HO597.out).2.1); rintro e w278 ⟨rfl, hb⟩; replace HO_560003 := cV HO_560003 hb; replace HO_560004 := cV HO_560004 hb; replace HO597 := cR HO597 hb; replace HO605 := cR HO605 hb; replace HO608 := cR HO608 hb; replace BK558 := cB BK558 hb; replace BK559 := cB BK559 hb; replace BK599 := cB BK599 hb; replace BK610 := cB BK610 hb; replace HB := Aside0.mk (below_step bl hb); (try clear hb)))
                 go_ret
                 exact ⟨re_, bl⟩
               ·
                rw [if_neg c238] at H
                exact absurd H (by simp)
              ·
               rw [if_neg c236] at H
               have c236b0 : (t598 == 0) = false := beq_eq_false_iff_ne.mpr c236
               have c236b1 : (t598 != 0) = true := bne_iff_ne.mpr c236
               by_cases c279 : t609 = 0
               ·
                rw [if_pos c279] at H
                have c279b0 : (t609 == 0) = true := beq_iff_eq.mpr c279
                have c279b1 : (t609 != 0) = false := bne_eq_false_iff_eq.mpr c279
                clear c279
                obtain ⟨t617, A280, H⟩ := bs H
                try dsimp only at H
                obtain rfl := Option.some.inj H
                go_wp2_with (first | (refine gL (some 134) rfl Tryz.func22 #[.string a2] ?_; (with_reducible refine (reply_ReadStored.calls (hL := ld) kj125 a2 t591 t592 _ A147.out).mono ?_); rintro e w281 ⟨rfl, hb⟩; refine ⟨_, rfl, ?_⟩; replace HO_560003 := cV HO_560003 hb; replace HO_560004 := cV HO_560004 hb; replace BK558 := cB BK558 hb; replace BK559 := cB BK559 hb; replace HB := Aside0.mk (below_step bl hb); (try clear hb)) | (refine gL (some 139) rfl Tryz.func24 #[.string a2] ?_; (with_reducible refine (reply_ReadRows.calls (hL := ld) kj125 a2 t593 t594 t595 t598 _ A148.out).mono ?_); rintro e w282 ⟨v596, rfl, ho0, hb⟩; refine ⟨_, rfl, ?_⟩; replace HO_560003 := Aside0.mk (Kd.V_elder' (uV HO_560003.out) (Kd.R_base ho0) hb); replace HO_560004 := Aside0.mk (Kd.V_elder' (uV HO_560004.out) (Kd.R_base ho0) hb); have HO597 := Aside0.mk (Kd.R_lower (Kd.R_newM (M := fun k_ => (w.heap.size ≤ k_)) ho0 (below_size bl) (fun k_ h_ => h_)) (below_size bl)); replace BK558 := cB BK558 hb; replace BK559 := cB BK559 hb; replace HB := Aside0.mk (below_step bl hb); (try clear hb); (try clear ho0)) | ((with_reducible refine gate_dst (N := 13) rfl ?_); (try (refine gate_guard (by rfl) ?_; dsimp only)); refine bx (N := 13) #[.int .i64 0, .int .i64 0, .slice none 0 0] 33 ?_; intro gb599 hg w283 hbox hb; replace HO_560003 := Aside0.mk (Kd.V_below (Kd.V_elderB (uV HO_560003.out) gb599 (Nat.le_of_eq hg.symm)) hb); replace HO_560004 := Aside0.mk (Kd.V_below (Kd.V_elderB (uV HO_560004.out) gb599 (Nat.le_of_eq hg.symm)) hb); replace HO597 := cR HO597 hb; have BK599 := Aside0.mk (hbox); have GW599 := gw hg bl; have GE599 := GW599; replace HB := Aside0.mk (below_step bl hb); have NB558_599 := nl BK558 hg; have NB599_558 := nr BK558 hg; replace BK558 := cB BK558 hb; have NB559_599 := nl BK559 hg; have NB599_559 := nr BK559 hg; replace BK559 := cB BK559 hb; clear hb hbox hg; have hnb284 := NB599_558.out; have hnc284 := NB558_599.out; have hnb285 := NB599_559.out; have hnc285 := NB559_599.out; obtain ⟨hcz286_0, hcz286_1, hcz286_2, hfz286_0, hfz286_1, hfz286_2⟩ := z3 BK599; obtain ⟨Ao287, co287, eo287⟩ := Kd.R_slice HO597.out; subst eo287) | (refine gL (some 144) rfl Tryz.func26 #[.string a2] ?_; (with_reducible refine (reply_ReadMessage.calls (hL := ld) kj125 a2 t600 t601 t602 t603 t606 t609 _ A149.out).mono ?_); rintro e w288 ⟨v604, v607, rfl, ho0, ho1, hb⟩; refine ⟨_, rfl, ?_⟩; replace HO_560003 := Aside0.mk (Kd.V_mono (Kd.V_told (Kd.V_told (Kd.V_old (by exact (Kd.V_mono (fV_ (Kd.V_mono HO_560003.out (fun k_ hk => (⟨hk, hk.2⟩ : _ ∧ k_ ≠ gb599))) fun _ h => h.2) (fun _ h_ => h_.1))) hb) (Kd.R_base ho0)) (Kd.R_base ho1)) (fun _ h_ => h_.1)); replace HO_560004 := Aside0.mk (Kd.V_mono (Kd.V_told (Kd.V_told (Kd.V_old (by exact (Kd.V_mono (fV_ (Kd.V_mono HO_560004.out (fun k_ hk => (⟨hk, hk.2⟩ : _ ∧ k_ ≠ gb599))) fun _ h => h.2) (fun _ h_ => h_.1))) hb) (Kd.R_base ho0)) (Kd.R_base ho1)) (fun _ h_ => h_.1)); have HO605 := Aside0.mk (Kd.R_lower (Kd.R_new' (Kd.R_newM (M := fun k_ => (w.heap.size ≤ k_)) ho0 (below_size bl) (fun k_ h_ => h_)) (Kd.R_lt (by exact (Kd.R_mono (fR_ (Kd.R_types HO597.out BK599.out (by decide)) fun _ h => h.2) (fun _ h_ => h_.1))))) (below_size bl)); replace HO597 := Aside0.mk (Kd.R_elder' (by exact (Kd.R_mono (fR_ (Kd.R_types HO597.out BK599.out (by decide)) fun _ h => h.2) (fun _ h_ => h_.1))) (Kd.R_base ho0) hb); have HO608 := Aside0.mk (Kd.R_lower (Kd.R_newM (M := fun k_ => (w.heap.size ≤ k_)) ho1 (below_size bl) (fun k_ h_ => h_)) (below_size bl)); replace BK558 := Aside0.mk (blk_below (g := gb558) (o := .cells #[.int .i64 a0_0, .int .i64 a0_1, .slice A0_2 l0_2.length c0_2] 33 (0, 0)) (fF BK558.out NB558_599) hb); replace BK559 := Aside0.mk (blk_below (g := gb559) (o := .cells #[.int .i64 a1_0, .int .i64 a1_1, .int .i64 a1_2, .slice A1_3 l1_3.length c1_3, .slice A1_4 l1_4.length c1_4] 36 (0, 0)) (fF BK559.out NB559_599) hb); replace BK599 := fcB BK599 hb; replace HB := Aside0.mk (below_step bl hb); (try clear hb); (try clear ho0); (try clear ho1)) | ((with_reducible refine gate_dst (N := 15) rfl ?_); (try (refine gate_guard (by rfl) ?_; dsimp only)); refine bx (N := 15) #[.int .i64 0, .int .i64 0, .int .i64 0, .slice none 0 0, .slice none 0 0] 36 ?_; intro gb610 hg w289 hbox hb; replace HO_560003 := Aside0.mk (Kd.V_below (Kd.V_elderB (uV HO_560003.out) gb610 (Nat.le_of_eq hg.symm)) hb); replace HO_560004 := Aside0.mk (Kd.V_below (Kd.V_elderB (uV HO_560004.out) gb610 (Nat.le_of_eq hg.symm)) hb); replace HO597 := cR HO597 hb; replace HO605 := cR HO605 hb; replace HO608 := cR HO608 hb; have BK610 := Aside0.mk (hbox); have GW610 := gw hg bl; have GE610 := GW610; replace HB := Aside0.mk (below_step bl hb); have NB558_610 := nl BK558 hg; have NB610_558 := nr BK558 hg; replace BK558 := cB BK558 hb; have NB559_610 := nl BK559 hg; have NB610_559 := nr BK559 hg; replace BK559 := cB BK559 hb; have NB599_610 := nl BK599 hg; have NB610_599 := nr BK599 hg; replace BK599 := cB BK599 hb; clear hb hbox hg; have hnb290 := NB610_558.out; have hnc290 := NB558_610.out; have hnb291 := NB610_559.out; have hnc291 := NB559_610.out; have hnb292 := NB610_599.out; have hnc292 := NB599_610.out; obtain ⟨hcz293_0, hcz293_1, hcz293_2, hcz293_3, hcz293_4, hfz293_0, hfz293_1, hfz293_2, hfz293_3, hfz293_4⟩ := z5 BK610; obtain ⟨Ao294, co294, eo294⟩ := Kd.R_slice HO605.out; subst eo294; obtain ⟨Ao295, co295, eo295⟩ := Kd.R_slice HO608.out; subst eo295) | ((with_reducible refine gate_store (t := 36) (p := 15) rfl ?_); refine store_event (t := 36) (p := 15) (v := ?vo_w296) (w1 := (((((w289.setCell ⟨gb610, 0, none⟩ (.int .i64 t600)).setCell ⟨gb610, 1, none⟩ (.int .i64 t601)).setCell ⟨gb610, 2, none⟩ (.int .i64 t602)).setCell ⟨gb610, 3, none⟩ (.slice Ao294 t603.length co294)).setCell ⟨gb610, 4, none⟩ (.slice Ao295 t606.length co295))) ?hg ?ho ?hn ?hr ?_; (case ho => rfl); (case hg => rfl); (case hn => rfl); (case hr => first | (go_simp; done) | (go_simp; rfl)); intro w296 hw; replace HO_560003 := fgNV (ok' := (fun k_ => ((P1_3_ k_ ∨ P1_4_ k_) ∨ w.heap.size ≤ k_) ∧ some k_ ≠ (.slice Ao287 t595.length co287 : Value).ownBlock ∧ some k_ ≠ (.slice Ao294 t603.length co294 : Value).ownBlock ∧ some k_ ≠ (.slice Ao295 t606.length co295 : Value).ownBlock ∧ k_ ≠ gb558 ∧ k_ ≠ gb559 ∧ k_ ≠ gb599 ∧ k_ ≠ gb610)) hw HO_560003 (fun k_ hk => (⟨hk, hk.2⟩ : _ ∧ k_ ≠ gb610)) (fun _ hk => ⟨hk.1.1.1.1.1.1.1, ⟨hk.1.1.1.1.1.2, ⟨hk.1.1.1.2, ⟨hk.1.1.2, ⟨hk.1.1.1.1.1.1.2.1, ⟨hk.1.1.1.1.1.1.2.2, ⟨hk.1.1.1.1.2, hk.1.2⟩⟩⟩⟩⟩⟩⟩); replace HO_560004 := fgNV (ok' := (fun k_ => ((P1_3_ k_ ∨ P1_4_ k_) ∨ w.heap.size ≤ k_) ∧ some k_ ≠ (.slice Ao287 t595.length co287 : Value).ownBlock ∧ some k_ ≠ (.slice Ao294 t603.length co294 : Value).ownBlock ∧ some k_ ≠ (.slice Ao295 t606.length co295 : Value).ownBlock ∧ k_ ≠ gb558 ∧ k_ ≠ gb559 ∧ k_ ≠ gb599 ∧ k_ ≠ gb610)) hw HO_560004 (fun k_ hk => (⟨hk, hk.2⟩ : _ ∧ k_ ≠ gb610)) (fun _ hk => ⟨hk.1.1.1.1.1.1.1, ⟨hk.1.1.1.1.1.2, ⟨hk.1.1.1.2, ⟨hk.1.1.2, ⟨hk.1.1.1.1.1.1.2.1, ⟨hk.1.1.1.1.1.1.2.2, ⟨hk.1.1.1.1.2, hk.1.2⟩⟩⟩⟩⟩⟩⟩); replace HO597 := fgR (ok' := (fun k_ => (w.heap.size ≤ k_) ∧ some k_ ≠ (.slice Ao294 t603.length co294 : Value).ownBlock)) hw HO597 BK610 (fun _ hk => ⟨hk.1.1.1, hk.1.2⟩); replace HO605 := fgR (ok' := (fun k_ => (w.heap.size ≤ k_) ∧ some k_ ≠ (.slice Ao287 t595.length co287 : Value).ownBlock)) hw HO605 BK610 (fun _ hk => ⟨hk.1.1.1, hk.1.2⟩); replace HO608 := fgR (ok' := (fun k_ => (w.heap.size ≤ k_))) hw HO608 BK610 (fun _ hk => hk.1.1); replace BK558 := fgF hw BK558 NB558_610; replace BK559 := fgF hw BK559 NB559_610; replace BK599 := fgF hw BK599 NB599_610; replace HB : Aside0 (Below w.heap.size w w296) := fgW hw bl; replace BK610 := fgB hw BK610; clear hw; obtain ⟨hcz297_0, hcz297_1, hcz297_2, hcz297_3, hcz297_4, hfz297_0, hfz297_1, hfz297_2, hfz297_3, hfz297_4⟩ := z5 BK610) | (go_at_call 20; (with_reducible refine (reply_Message.calls (hL := ld) kj125 t600 t601 t602 _ _ t603 _ _ t606 t617 _ ?side1 ?side2 ?side3 ?side4 A280.out).mono ?_); (case side1 => exact uC <| (Kd.R_reads' HO605.out).2.2); (case side2 => exact (Kd.R_reads' HO605.out).2.1); (case side3 => exact uC <| (Kd.R_reads' HO608.out).2.2); (case side4 => exact (Kd.R_reads' HO608.out).2.1); rintro e w298 ⟨rfl, hb⟩; replace HO_560003 := cV HO_560003 hb; replace HO_560004 := cV HO_560004 hb; replace HO597 := cR HO597 hb; replace HO605 := cR HO605 hb; replace HO608 := cR HO608 hb; replace BK558 := cB BK558 hb; replace BK559 := cB BK559 hb; replace BK599 := cB BK599 hb; replace BK610 := cB BK610 hb; replace HB := Aside0.mk (below_step bl hb); (try clear hb)))
                go_ret
                exact ⟨re_, bl⟩
               ·
                rw [if_neg c279] at H
                have c279b0 : (t609 == 0) = false := beq_eq_false_iff_ne.mpr c279
                have c279b1 : (t609 != 0) = true := bne_iff_ne.mpr c279
                obtain rfl := Option.some.inj H
                go_wp2_with (first | (refine gL (some 134) rfl Tryz.func22 #[.string a2] ?_; (with_reducible refine (reply_ReadStored.calls (hL := ld) kj125 a2 t591 t592 _ A147.out).mono ?_); rintro e w299 ⟨rfl, hb⟩; refine ⟨_, rfl, ?_⟩; replace HO_560003 := cV HO_560003 hb; replace HO_560004 := cV HO_560004 hb; replace BK558 := cB BK558 hb; replace BK559 := cB BK559 hb; replace HB := Aside0.mk (below_step bl hb); (try clear hb)) | (refine gL (some 139) rfl Tryz.func24 #[.string a2] ?_; (with_reducible refine (reply_ReadRows.calls (hL := ld) kj125 a2 t593 t594 t595 t598 _ A148.out).mono ?_); rintro e w300 ⟨v596, rfl, ho0, hb⟩; refine ⟨_, rfl, ?_⟩; replace HO_560003 := Aside0.mk (Kd.V_elder' (uV HO_560003.out) (Kd.R_base ho0) hb); replace HO_560004 := Aside0.mk (Kd.V_elder' (uV HO_560004.out) (Kd.R_base ho0) hb); have HO597 := Aside0.mk (Kd.R_lower (Kd.R_newM (M := fun k_ => (w.heap.size ≤ k_)) ho0 (below_size bl) (fun k_ h_ => h_)) (below_size bl)); replace BK558 := cB BK558 hb; replace BK559 := cB BK559 hb; replace HB := Aside0.mk (below_step bl hb); (try clear hb); (try clear ho0)) | ((with_reducible refine gate_dst (N := 13) rfl ?_); (try (refine gate_guard (by rfl) ?_; dsimp only)); refine bx (N := 13) #[.int .i64 0, .int .i64 0, .slice none 0 0] 33 ?_; intro gb599 hg w301 hbox hb; replace HO_560003 := Aside0.mk (Kd.V_below (Kd.V_elderB (uV HO_560003.out) gb599 (Nat.le_of_eq hg.symm)) hb); replace HO_560004 := Aside0.mk (Kd.V_below (Kd.V_elderB (uV HO_560004.out) gb599 (Nat.le_of_eq hg.symm)) hb); replace HO597 := cR HO597 hb; have BK599 := Aside0.mk (hbox); have GW599 := gw hg bl; have GE599 := GW599; replace HB := Aside0.mk (below_step bl hb); have NB558_599 := nl BK558 hg; have NB599_558 := nr BK558 hg; replace BK558 := cB BK558 hb; have NB559_599 := nl BK559 hg; have NB599_559 := nr BK559 hg; replace BK559 := cB BK559 hb; clear hb hbox hg; have hnb302 := NB599_558.out; have hnc302 := NB558_599.out; have hnb303 := NB599_559.out; have hnc303 := NB559_599.out; obtain ⟨hcz304_0, hcz304_1, hcz304_2, hfz304_0, hfz304_1, hfz304_2⟩ := z3 BK599; obtain ⟨Ao305, co305, eo305⟩ := Kd.R_slice HO597.out; subst eo305) | (refine gL (some 144) rfl Tryz.func26 #[.string a2] ?_; (with_reducible refine (reply_ReadMessage.calls (hL := ld) kj125 a2 t600 t601 t602 t603 t606 t609 _ A149.out).mono ?_); rintro e w306 ⟨v604, v607, rfl, ho0, ho1, hb⟩; refine ⟨_, rfl, ?_⟩; replace HO_560003 := Aside0.mk (Kd.V_mono (Kd.V_told (Kd.V_told (Kd.V_old (by exact (Kd.V_mono (fV_ (Kd.V_mono HO_560003.out (fun k_ hk => (⟨hk, hk.2⟩ : _ ∧ k_ ≠ gb599))) fun _ h => h.2) (fun _ h_ => h_.1))) hb) (Kd.R_base ho0)) (Kd.R_base ho1)) (fun _ h_ => h_.1)); replace HO_560004 := Aside0.mk (Kd.V_mono (Kd.V_told (Kd.V_told (Kd.V_old (by exact (Kd.V_mono (fV_ (Kd.V_mono HO_560004.out (fun k_ hk => (⟨hk, hk.2⟩ : _ ∧ k_ ≠ gb599))) fun _ h => h.2) (fun _ h_ => h_.1))) hb) (Kd.R_base ho0)) (Kd.R_base ho1)) (fun _ h_ => h_.1)); have HO605 := Aside0.mk (Kd.R_lower (Kd.R_new' (Kd.R_newM (M := fun k_ => (w.heap.size ≤ k_)) ho0 (below_size bl) (fun k_ h_ => h_)) (Kd.R_lt (by exact (Kd.R_mono (fR_ (Kd.R_types HO597.out BK599.out (by decide)) fun _ h => h.2) (fun _ h_ => h_.1))))) (below_size bl)); replace HO597 := Aside0.mk (Kd.R_elder' (by exact (Kd.R_mono (fR_ (Kd.R_types HO597.out BK599.out (by decide)) fun _ h => h.2) (fun _ h_ => h_.1))) (Kd.R_base ho0) hb); have HO608 := Aside0.mk (Kd.R_lower (Kd.R_newM (M := fun k_ => (w.heap.size ≤ k_)) ho1 (below_size bl) (fun k_ h_ => h_)) (below_size bl)); replace BK558 := Aside0.mk (blk_below (g := gb558) (o := .cells #[.int .i64 a0_0, .int .i64 a0_1, .slice A0_2 l0_2.length c0_2] 33 (0, 0)) (fF BK558.out NB558_599) hb); replace BK559 := Aside0.mk (blk_below (g := gb559) (o := .cells #[.int .i64 a1_0, .int .i64 a1_1, .int .i64 a1_2, .slice A1_3 l1_3.length c1_3, .slice A1_4 l1_4.length c1_4] 36 (0, 0)) (fF BK559.out NB559_599) hb); replace BK599 := fcB BK599 hb; replace HB := Aside0.mk (below_step bl hb); (try clear hb); (try clear ho0); (try clear ho1)) | ((with_reducible refine gate_dst (N := 15) rfl ?_); (try (refine gate_guard (by rfl) ?_; dsimp only)); refine bx (N := 15) #[.int .i64 0, .int .i64 0, .int .i64 0, .slice none 0 0, .slice none 0 0] 36 ?_; intro gb610 hg w307 hbox hb; replace HO_560003 := Aside0.mk (Kd.V_below (Kd.V_elderB (uV HO_560003.out) gb610 (Nat.le_of_eq hg.symm)) hb); replace HO_560004 := Aside0.mk (Kd.V_below (Kd.V_elderB (uV HO_560004.out) gb610 (Nat.le_of_eq hg.symm)) hb); replace HO597 := cR HO597 hb; replace HO605 := cR HO605 hb; replace HO608 := cR HO608 hb; have BK610 := Aside0.mk (hbox); have GW610 := gw hg bl; have GE610 := GW610; replace HB := Aside0.mk (below_step bl hb); have NB558_610 := nl BK558 hg; have NB610_558 := nr BK558 hg; replace BK558 := cB BK558 hb; have NB559_610 := nl BK559 hg; have NB610_559 := nr BK559 hg; replace BK559 := cB BK559 hb; have NB599_610 := nl BK599 hg; have NB610_599 := nr BK599 hg; replace BK599 := cB BK599 hb; clear hb hbox hg; have hnb308 := NB610_558.out; have hnc308 := NB558_610.out; have hnb309 := NB610_559.out; have hnc309 := NB559_610.out; have hnb310 := NB610_599.out; have hnc310 := NB599_610.out; obtain ⟨hcz311_0, hcz311_1, hcz311_2, hcz311_3, hcz311_4, hfz311_0, hfz311_1, hfz311_2, hfz311_3, hfz311_4⟩ := z5 BK610; obtain ⟨Ao312, co312, eo312⟩ := Kd.R_slice HO605.out; subst eo312; obtain ⟨Ao313, co313, eo313⟩ := Kd.R_slice HO608.out; subst eo313) | ((with_reducible refine gate_store (t := 36) (p := 15) rfl ?_); refine store_event (t := 36) (p := 15) (v := ?vo_w314) (w1 := (((((w307.setCell ⟨gb610, 0, none⟩ (.int .i64 t600)).setCell ⟨gb610, 1, none⟩ (.int .i64 t601)).setCell ⟨gb610, 2, none⟩ (.int .i64 t602)).setCell ⟨gb610, 3, none⟩ (.slice Ao312 t603.length co312)).setCell ⟨gb610, 4, none⟩ (.slice Ao313 t606.length co313))) ?hg ?ho ?hn ?hr ?_; (case ho => rfl); (case hg => rfl); (case hn => rfl); (case hr => first | (go_simp; done) | (go_simp; rfl)); intro w314 hw; replace HO_560003 := fgNV (ok' := (fun k_ => ((P1_3_ k_ ∨ P1_4_ k_) ∨ w.heap.size ≤ k_) ∧ some k_ ≠ (.slice Ao305 t595.length co305 : Value).ownBlock ∧ some k_ ≠ (.slice Ao312 t603.length co312 : Value).ownBlock ∧ some k_ ≠ (.slice Ao313 t606.length co313 : Value).ownBlock ∧ k_ ≠ gb558 ∧ k_ ≠ gb559 ∧ k_ ≠ gb599 ∧ k_ ≠ gb610)) hw HO_560003 (fun k_ hk => (⟨hk, hk.2⟩ : _ ∧ k_ ≠ gb610)) (fun _ hk => ⟨hk.1.1.1.1.1.1.1, ⟨hk.1.1.1.1.1.2, ⟨hk.1.1.1.2, ⟨hk.1.1.2, ⟨hk.1.1.1.1.1.1.2.1, ⟨hk.1.1.1.1.1.1.2.2, ⟨hk.1.1.1.1.2, hk.1.2⟩⟩⟩⟩⟩⟩⟩); replace HO_560004 := fgNV (ok' := (fun k_ => ((P1_3_ k_ ∨ P1_4_ k_) ∨ w.heap.size ≤ k_) ∧ some k_ ≠ (.slice Ao305 t595.length co305 : Value).ownBlock ∧ some k_ ≠ (.slice Ao312 t603.length co312 : Value).ownBlock ∧ some k_ ≠ (.slice Ao313 t606.length co313 : Value).ownBlock ∧ k_ ≠ gb558 ∧ k_ ≠ gb559 ∧ k_ ≠ gb599 ∧ k_ ≠ gb610)) hw HO_560004 (fun k_ hk => (⟨hk, hk.2⟩ : _ ∧ k_ ≠ gb610)) (fun _ hk => ⟨hk.1.1.1.1.1.1.1, ⟨hk.1.1.1.1.1.2, ⟨hk.1.1.1.2, ⟨hk.1.1.2, ⟨hk.1.1.1.1.1.1.2.1, ⟨hk.1.1.1.1.1.1.2.2, ⟨hk.1.1.1.1.2, hk.1.2⟩⟩⟩⟩⟩⟩⟩); replace HO597 := fgR (ok' := (fun k_ => (w.heap.size ≤ k_) ∧ some k_ ≠ (.slice Ao312 t603.length co312 : Value).ownBlock)) hw HO597 BK610 (fun _ hk => ⟨hk.1.1.1, hk.1.2⟩); replace HO605 := fgR (ok' := (fun k_ => (w.heap.size ≤ k_) ∧ some k_ ≠ (.slice Ao305 t595.length co305 : Value).ownBlock)) hw HO605 BK610 (fun _ hk => ⟨hk.1.1.1, hk.1.2⟩); replace HO608 := fgR (ok' := (fun k_ => (w.heap.size ≤ k_))) hw HO608 BK610 (fun _ hk => hk.1.1); replace BK558 := fgF hw BK558 NB558_610; replace BK559 := fgF hw BK559 NB559_610; replace BK599 := fgF hw BK599 NB599_610; replace HB : Aside0 (Below w.heap.size w w314) := fgW hw bl; replace BK610 := fgB hw BK610; clear hw))
                go_ret
                exact ⟨re_, bl⟩
 ·
  replace c5 := Bool.eq_false_iff.mpr c5
  subst c5
  rw [if_neg (show ¬ (false = true) by decide)] at H
  exact absurd H (by simp)
def w23_ReplyBack.Pure : Prop := ∀ (x0 : S33) (x1 : S36) (a2 : ByteArray), Q33 x0 → Q36 x1 → (a2.size ≤ 140737488351232) → ∃ k, w23_ReplyBack.f k x0.f0 x0.f1 x0.f2 x1.f0 x1.f1 x1.f2 x1.f3 x1.f4 a2 = some true
theorem k58_heap : Kd.Heap k58 := Kd.heap_iso _ (Kd.heap_pair (Kd.heap_int .i64) Kd.heap_bool)
theorem k60_heap : Kd.Heap k60 := Kd.heap_iso _ (Kd.heap_pair (Kd.heap_int .i64) (Kd.heap_pair Kd.heap_string k58_heap))
theorem k78_heap : Kd.Heap k78 := Kd.heap_iso _ (Kd.heap_pair k60_heap Kd.heap_bool)
theorem w23_ReplyBack.walk (P : w23_ReplyBack.Pure) (x0 : S33) (x1 : S36) (a2 : ByteArray) (w : World) (hL : LD w) (A0_2 : Option Addr) (c0_2 : Nat) (hr0_2 : Kd.C k60 w A0_2 x0.f2.length x0.f2) (hc0_2 : x0.f2.length ≤ c0_2) (A1_3 : Option Addr) (c1_3 : Nat) (hr1_3 : Kd.C k60 w A1_3 x1.f3.length x1.f3) (hc1_3 : x1.f3.length ≤ c1_3) (A1_4 : Option Addr) (c1_4 : Nat) (hr1_4 : Kd.C k78 w A1_4 x1.f4.length x1.f4) (hc1_4 : x1.f4.length ≤ c1_4) (q0 : Q33 x0) (q1 : Q36 x1) (q2 : a2.size ≤ 140737488351232) :
 Calls Tryz.prog 6 #[.agg #[.int .i64 x0.f0, .int .i64 x0.f1, .slice A0_2 x0.f2.length c0_2], .agg #[.int .i64 x1.f0, .int .i64 x1.f1, .int .i64 x1.f2, .slice A1_3 x1.f3.length c1_3, .slice A1_4 x1.f4.length c1_4], .string a2] w fun e w' => e = .returned (.bool true) ∧ Below w.heap.size w w' := by
 obtain ⟨k, h⟩ := P x0 x1 a2 q0 q1 q2
 refine (w23_ReplyBack.calls (hL := hL) k x0.f0 x0.f1 A0_2 c0_2 x0.f2 x1.f0 x1.f1 x1.f2 (fun k_ => k_ < w.heap.size) A1_3 c1_3 x1.f3 (fun k_ => k_ < w.heap.size) A1_4 c1_4 x1.f4 a2 true w hr0_2 hc0_2 (Kd.V_mk hc1_3 (Kd.C_F k60_heap hr1_3)) (Kd.V_mk hc1_4 (Kd.C_F k78_heap hr1_4)) h).mono ?_
 rintro e w' ⟨rfl, hd⟩
 exact ⟨rfl, hd⟩
end Go.Proofs.YteckidchnicjeaaGreatDoor.X
