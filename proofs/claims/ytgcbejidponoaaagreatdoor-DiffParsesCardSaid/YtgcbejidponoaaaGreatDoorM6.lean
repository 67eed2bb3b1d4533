/- Printed by a program of this session's own: what functions of the program compute, and that the machine computes it. No condition of its own. -/
import Derived.Test.YtgcbejidponoaaaGreatDoorM3
import Derived.Test.YtgcbejidponoaaaGreatDoorM4
import Derived.Test.YtgcbejidponoaaaGreatDoorM5
namespace Go.Proofs.YtgcbejidponoaaaGreatDoor.X
open Go.RowKit Go.Proofs.YtgcbejidponoaaaGreatDoorW.PrintWords Go.Proofs.YtgcbejidponoaaaGreatDoorW.PrintLast Go.Proofs.YtgcbejidponoaaaGreatDoorW.PrintMore
attribute [local go_sem] max2_int min2_int max_two min_two max_three min_three max_four min_four
set_option linter.unusedVariables false
set_option linter.unusedSimpArgs false
set_option maxHeartbeats 8000000
set_option maxRecDepth 100000
def tag_Text.l0 : Nat → List ByteArray → List (S98) → Int → Int → Option (ByteArray)
 | 0, _, _, _, _ => none
 | k + 1, x3, x6, x7, x8 => if x8 < x7 then (if 0 ≤ x8 then (if x8 < (x6.length : Int) then ((word_Join.f (⟨#[61]⟩ : ByteArray) (([(rd_T98 x6 x8).f0, (rd_T98 x6 x8).f1] : List ByteArray))).bind fun t184 => (if x3.length < 8796093022208 then (tag_Text.l0 k (x3 ++ [t184]) x6 x7 (wrap64 (x8 + 1))) else (none))) else (none)) else (none)) else ((word_Join.f (⟨#[44]⟩ : ByteArray) x3).bind fun t188 => (some t188))
def tag_Text.f (k : Nat) (l0 : List (S98)) : Option (ByteArray) := tag_Text.l0 k ([] : List ByteArray) l0 (l0.length : Int) 0
theorem tag_Text.mono_l : ∀ k, (∀ y0 y1 y2 y3, LeC (tag_Text.l0 k y0 y1 y2 y3) (tag_Text.l0 (k + 1) y0 y1 y2 y3))
 | 0 => fun _ _ _ _ => ⟨fun r h => by simp [tag_Text.l0] at h⟩
 | k + 1 => by have ih0 := tag_Text.mono_l k; exact fun _ _ _ _ => by unfold tag_Text.l0; exact lm
theorem tag_Text.mono : ∀ a0 k, LeO (tag_Text.f k a0) (tag_Text.f (k + 1) a0) := by
 intro a0 k
 have ih0 := tag_Text.mono_l k
 unfold tag_Text.f
 exact lo
instance tag_Text.mI {a0 k} : LeC (tag_Text.f k a0) (tag_Text.f (k + 1) a0) := ⟨tag_Text.mono _ _⟩
theorem tag_Text.calls (k : Nat) (A0 : Option Addr) (c0 : Nat) (l0 : List (S98)) (r : ByteArray) (w : World) (hr0 : Kd.C k98 w A0 l0.length l0) (hc0 : l0.length ≤ c0) (h : tag_Text.f k l0 = some r) :
 Calls Tryz.prog 66 #[.slice A0 l0.length c0] w fun e w' => e = .returned (.string r) ∧ Below w.heap.size w w' := by
 have hu98 := Tryz.underlying98
 have HR0 := Aside0.mk hr0
 have HC0 := Aside0.mk hc0
 clear hr0 hc0
 have HB := Aside0.mk (Below.refl w.heap.size w)
 have H : (tag_Text.l0 k ([] : List ByteArray) l0 (l0.length : Int) 0) = some r := h
 clear h
 have H' := Aside0.mk H
 clear H
 go_enter Tryz.func66, Tryz.ntmps66
 go_wp2
 go_loopg [3, 8] k (fun kq v3 v8 w' => ∃ (x3_1 : List ByteArray) (x8_1 : Int), v8 = .int .i64 x8_1 ∧ Aside0 (tag_Text.l0 kq x3_1 l0 (l0.length : Int) x8_1 = some r) ∧ Aside0 (kq ≤ k) ∧ Aside0 (Kd.R Kd.string 9 w' w.heap.size (fun _ => True) v3 x3_1) ∧ Aside0 (Below w.heap.size w w'))
 case atStart => exact ⟨(([] : List ByteArray)), (0), rs_, H', ⟨Nat.le_refl _⟩, ⟨nl_⟩, ⟨uW HB.out⟩⟩
 case round =>
  clear H'
  obtain ⟨x3_1, x8_1, rfl, HA, HK1, HO_3, HB⟩ := hrel
  cases gk with
  | zero => exact absurd HA.out (by simp [tag_Text.l0])
  | succ k1 =>
   have H := HA.out
   clear HA
   simp only [tag_Text.l0] at H
   by_cases c2 : x8_1 < (l0.length : Int)
   ·
    rw [if_pos c2] at H
    have c2b0 : decide (x8_1 < (l0.length : Int)) = true := decide_eq_true c2
    clear c2
    obtain ⟨c3b0, H⟩ := gdd H
    obtain ⟨c4b0, H⟩ := gdd H
    obtain ⟨y181, hy181⟩ : ∃ y_ : List ByteArray, y_ = (([(rd_T98 l0 x8_1).f0, (rd_T98 l0 x8_1).f1] : List ByteArray)) := ⟨_, rfl⟩
    replace H : ((word_Join.f (⟨#[61]⟩ : ByteArray) y181).bind fun t184 => (if x3_1.length < 8796093022208 then (tag_Text.l0 k1 (x3_1 ++ [t184]) l0 (l0.length : Int) (wrap64 (x8_1 + 1))) else (none))) = some r := by first | (rw [hy181]; with_reducible exact H) | (have H2_ := (Option.bind_some _ _).symm.trans H; rw [hy181]; with_reducible exact H2_) | (have H2_ := (Option.bind_some _ _).symm.trans H; with_reducible exact H2_) | with_reducible exact H | (rw [hy181]; exact H) | exact H
    have Ny181 := Aside0.mk hy181
    clear hy181
    obtain ⟨t184, A5, H⟩ := bs H
    try dsimp only at H
    obtain ⟨c6, H⟩ := gd H
    have LMc6 := Aside0.mk c6
    clear c6
    obtain ⟨y185, hy185⟩ : ∃ y_ : List ByteArray, y_ = (x3_1 ++ [t184]) := ⟨_, rfl⟩
    replace H : (tag_Text.l0 k1 y185 l0 (l0.length : Int) (wrap64 (x8_1 + 1))) = some r := by first | (rw [hy185]; with_reducible exact H) | (have H2_ := (Option.bind_some _ _).symm.trans H; rw [hy185]; with_reducible exact H2_) | (have H2_ := (Option.bind_some _ _).symm.trans H; with_reducible exact H2_) | with_reducible exact H | (rw [hy185]; exact H) | exact H
    have Ny185 := Aside0.mk hy185
    clear hy185
    have H' := Aside0.mk H
    clear H
    have p179 : 0 ≤ (x8_1 : Int) := od
    have q179 : x8_1 < (l0.length : Int) := od
    obtain ⟨ad179, e179, hx179_0, hx179_1⟩ := at_T98 HR0.out x8_1 p179 q179
    cases e179
    replace hx179_0 := kc HB hx179_0
    replace hx179_1 := kc HB hx179_1
    replace p179 := eq_true p179
    replace q179 := eq_true q179
    go_wp2_with (first | ((with_reducible refine gate_dst (N := 5) rfl ?_); refine bx (N := 5) #[.string (⟨#[]⟩ : ByteArray), .string (⟨#[]⟩ : ByteArray)] 98 ?_; intro gb180 hg w7 hbox hb; replace HO_3 := cR HO_3 hb; have BK180 := Aside0.mk (hbox); have GW180 := gw hg (uW HB.out); have GE180 := GW180; replace HB := cW HB hb; clear hb hbox hg; obtain ⟨hcz8_0, hcz8_1, hfz8_0, hfz8_1⟩ := z2 BK180) | ((with_reducible refine gate_dst (N := 17) rfl ?_); refine Kd.R_lit Kd.string _ 9 ?hg (N := 17) ?hd (xs := ([(rd_T98 l0 x8_1).f0, (rd_T98 l0 x8_1).f1] : List ByteArray)) (inner := [.string ((rd_T98 l0 x8_1).f0), .string ((rd_T98 l0 x8_1).f1)]) (ok := fun _ => True) (okp := fun _ => True) ?hr ?hp (fun _ hk => hk) trivial (Below.refl _ _) (Nat.le_refl _) (by simp) ?_; (case hd => rfl); (case hg => rfl); (case hr => first | (go_simp; done) | (go_simp; rfl)); (case hp => exact (Reps.one (show Kd.M Kd.string _ _ _ ((rd_T98 l0 x8_1).f0) [.string ((rd_T98 l0 x8_1).f0)] from rfl) (Reps.one (show Kd.M Kd.string _ _ _ ((rd_T98 l0 x8_1).f1) [.string ((rd_T98 l0 x8_1).f1)] from rfl) (Reps.none _ _)))); intro v182 w9 ho10 hb hg_ hnew_; clear hg_ hnew_; (first | rw [← Ny181.out] at ho10 | (simp only [Int.reduceToNat] at ho10; rw [← Ny181.out] at ho10)); have HO183 := Aside0.mk (Kd.R_lower (Kd.R_new' ho10 (Kd.R_lt (by exact uR <| (Kd.R_mono (Kd.R_far (p := ⟨gb180, 1, none⟩) (Kd.R_far (p := ⟨gb180, 0, none⟩) (Kd.R_types HO_3.out BK180.out (by decide)) (fun _ hk => hk.2) (.string ((rd_T98 l0 x8_1).f0))) (fun _ hk => hk.2) (.string ((rd_T98 l0 x8_1).f1))) (fun _ h_ => h_.1))))) (below_size bl)); replace HO_3 := Aside0.mk (Kd.R_elder' (by exact uR <| (Kd.R_mono (Kd.R_far (p := ⟨gb180, 1, none⟩) (Kd.R_far (p := ⟨gb180, 0, none⟩) (Kd.R_types HO_3.out BK180.out (by decide)) (fun _ hk => hk.2) (.string ((rd_T98 l0 x8_1).f0))) (fun _ hk => hk.2) (.string ((rd_T98 l0 x8_1).f1))) (fun _ h_ => h_.1))) (Kd.R_base ho10) hb); replace BK180 := Aside0.mk (blk_below (g := gb180) (o := .cells #[.string ((rd_T98 l0 x8_1).f0), .string ((rd_T98 l0 x8_1).f1)] 98 (0, 0)) (by (with_reducible repeat (first | refine blk_drewN ?_ _ | refine blk_drew ?_ | refine blk_alloc ?_ _)); refine blk_put (cs := #[.string ((rd_T98 l0 x8_1).f0), .string (⟨#[]⟩ : ByteArray)]) ?_ 1 _ rfl; (with_reducible repeat (first | refine blk_drewN ?_ _ | refine blk_drew ?_ | refine blk_alloc ?_ _)); refine blk_put (cs := #[.string (⟨#[]⟩ : ByteArray), .string (⟨#[]⟩ : ByteArray)]) ?_ 0 _ rfl; exact uB <| BK180.out) hb); replace HB := Aside0.mk (below_step bl hb); clear hb ho10; obtain ⟨Ao11, co11, eo11⟩ := Kd.R_slice HO183.out; subst eo11) | (refine gL (some 18) rfl Tryz.func30 #[.string (⟨#[61]⟩ : ByteArray), .slice Ao11 y181.length co11] ?_; (with_reducible refine (word_Join.calls (⟨#[61]⟩ : ByteArray) _ _ y181 t184 _ ?side1 ?side2 A5.out).mono ?_); (case side1 => exact uC <| (Kd.R_reads' HO183.out).2.2); (case side2 => exact (Kd.R_reads' HO183.out).2.1); rintro e w12 ⟨rfl, hb⟩; refine ⟨_, rfl, ?_⟩; replace HO_3 := cR HO_3 hb; replace HO183 := cR HO183 hb; replace BK180 := cB BK180 hb; replace HB := Aside0.mk (below_step bl hb); (try clear hb)) | ((with_reducible refine gate_builtin (b := .append) (xs := #[.tmp 12, .tmp 19]) rfl ?_); at_builtin; refine Kd.R_append Kd.string (w0 := w) w.heap.size rfl (.tmp 12) (.tmp 19) 52 9 (.string ⟨#[]⟩) 16 rfl Tryz.underlying52 info9 rfl (by decide) (by omega) u3 x3_1 t184 [.string t184] (fun k_ => some k_ ≠ (.slice Ao11 y181.length co11 : Value).ownBlock) (fun _ => False) rfl rfl ?aP (fun _ hk => hk.elim) ?aF ?aO ?aB ?aS ?aL ?_; (case aP => exact rfl); (case aB => exact bl); (case aF => exact (fun k_ hk => Kd.fresh' (Kd.R_lt (uR HO183.out)) k_ hk)); (case aO => exact (by exact uR <| Kd.R_mono HO_3.out (fun _ hk => hk.2))); (case aS => exact (below_size bl)); (case aL => have := LMc6.out; omega); intro v186 w13 ho hb hg hat; rw [← Ny185.out] at ho; replace BK180 := Aside0.mk (blk_grown (g := gb180) (o := .cells #[.string ((rd_T98 l0 x8_1).f0), .string ((rd_T98 l0 x8_1).f1)] 98 (0, 0)) (uB BK180.out) hg (Kd.R_ne HO_3.out BK180.out (by decide))); replace HO183 := Aside0.mk (Kd.R_after (ok := (fun _ => True)) (uR HO183.out) hg hat); replace HB := Aside0.mk (hb); have HO187 := Aside0.mk (ho); clear HO_3; clear ho hb hg hat))
    go_roundg k1
    case measure => have := HK1.out; omega
    case rel => exact ⟨(y185), (wrap64 (x8_1 + 1)), rs_, H', ⟨by have := HK1.out; omega⟩, ⟨by exact uR <| Kd.R_mono HO187.out (fun _ hk => trivial)⟩, ⟨bl⟩⟩
   ·
    rw [if_neg c2] at H
    have c2b0 : decide (x8_1 < (l0.length : Int)) = false := decide_eq_false c2
    clear c2
    obtain ⟨t188, A14, H⟩ := bs H
    try dsimp only at H
    obtain rfl := Option.some.inj H
    obtain ⟨Ao15, co15, eo15⟩ := Kd.R_slice HO_3.out
    subst eo15
    go_wp2_with (first | (refine gL (some 23) rfl Tryz.func30 #[.string (⟨#[44]⟩ : ByteArray), .slice Ao15 x3_1.length co15] ?_; (with_reducible refine (word_Join.calls (⟨#[44]⟩ : ByteArray) _ _ x3_1 t188 _ ?side1 ?side2 A14.out).mono ?_); (case side1 => exact uC <| (Kd.R_reads' HO_3.out).2.2); (case side2 => exact (Kd.R_reads' HO_3.out).2.1); rintro e w16 ⟨rfl, hb⟩; refine ⟨_, rfl, ?_⟩; replace HO_3 := cR HO_3 hb; replace HB := cW HB hb; (try clear hb)))
    go_ret
    exact ⟨re_, uW HB.out⟩
def row_group.f (k : Nat) (a0 : ByteArray) : Option (Int) := (tag_Parse.f k a0).bind fun bt189 => (if bt189.2 = 0 then ((tag_Text.f k bt189.1).bind fun t193 => (if t193.toList = a0.toList then (some bt189.2) else (some 2))) else (some bt189.2))
theorem row_group.mono : ∀ a0 k, LeO (row_group.f k a0) (row_group.f (k + 1) a0) := by
 intro a0 k
 unfold row_group.f
 exact lo
instance row_group.mI {a0 k} : LeC (row_group.f k a0) (row_group.f (k + 1) a0) := ⟨row_group.mono _ _⟩
theorem row_group.calls (k : Nat) (a0 : ByteArray) (r : Int) (w : World) (hL : LD w) (h : row_group.f k a0 = some r) :
 Calls Tryz.prog 48 #[.string a0] w fun e w' => e = .returned (.int .i64 r) ∧ Below w.heap.size w w' := by
 have HL0 := Aside0.mk hL
 clear hL
 have HB := Aside0.mk (Below.refl w.heap.size w)
 have H : ((tag_Parse.f k a0).bind fun bt189 => (if bt189.2 = 0 then ((tag_Text.f k bt189.1).bind fun t193 => (if t193.toList = a0.toList then (some bt189.2) else (some 2))) else (some bt189.2))) = some r := h
 clear h
 obtain ⟨⟨t189, t190⟩, A2, H⟩ := bs H
 try dsimp only at H
 by_cases c3 : t190 = 0
 ·
  rw [if_pos c3] at H
  have c3b0 : (t190 == 0) = true := beq_iff_eq.mpr c3
  have c3b1 : (t190 != 0) = false := bne_eq_false_iff_eq.mpr c3
  clear c3
  obtain ⟨t193, A4, H⟩ := bs H
  try dsimp only at H
  by_cases c5 : t193.toList = a0.toList
  ·
   rw [if_pos c5] at H
   have c5b0 : (t193.toList == a0.toList) = true := beq_iff_eq.mpr c5
   have c5b1 : (t193.toList != a0.toList) = false := bne_eq_false_iff_eq.mpr c5
   clear c5
   obtain rfl := Option.some.inj H
   go_enter Tryz.func48, Tryz.ntmps48
   go_wp2_with (first | (refine gL (some 7) rfl Tryz.func65 #[.string a0] ?_; (with_reducible refine (tag_Parse.calls (hL := ld) k a0 t189 t190 _ A2.out).mono ?_); rintro e w6 ⟨v191, rfl, ho0, hb⟩; refine ⟨_, rfl, ?_⟩; have HO192 := Aside0.mk (Kd.R_lower ho0 (below_size (uW HB.out))); replace HB := cW HB hb; (try clear hb); (try clear ho0); obtain ⟨Ao7, co7, eo7⟩ := Kd.R_slice HO192.out; subst eo7) | (go_at_call 66; (with_reducible refine (tag_Text.calls k _ _ t189 t193 _ ?side1 ?side2 A4.out).mono ?_); (case side1 => exact uC <| (Kd.R_reads' HO192.out).2.2); (case side2 => exact (Kd.R_reads' HO192.out).2.1); rintro e w8 ⟨rfl, hb⟩; replace HO192 := cR HO192 hb; replace HB := cW HB hb; (try clear hb)))
   go_ret
   exact ⟨re_, uW HB.out⟩
  ·
   rw [if_neg c5] at H
   have c5b0 : (t193.toList == a0.toList) = false := beq_eq_false_iff_ne.mpr c5
   have c5b1 : (t193.toList != a0.toList) = true := bne_iff_ne.mpr c5
   obtain rfl := Option.some.inj H
   go_enter Tryz.func48, Tryz.ntmps48
   go_wp2_with (first | (refine gL (some 7) rfl Tryz.func65 #[.string a0] ?_; (with_reducible refine (tag_Parse.calls (hL := ld) k a0 t189 t190 _ A2.out).mono ?_); rintro e w9 ⟨v191, rfl, ho0, hb⟩; refine ⟨_, rfl, ?_⟩; have HO192 := Aside0.mk (Kd.R_lower ho0 (below_size (uW HB.out))); replace HB := cW HB hb; (try clear hb); (try clear ho0); obtain ⟨Ao10, co10, eo10⟩ := Kd.R_slice HO192.out; subst eo10) | (go_at_call 66; (with_reducible refine (tag_Text.calls k _ _ t189 t193 _ ?side1 ?side2 A4.out).mono ?_); (case side1 => exact uC <| (Kd.R_reads' HO192.out).2.2); (case side2 => exact (Kd.R_reads' HO192.out).2.1); rintro e w11 ⟨rfl, hb⟩; replace HO192 := cR HO192 hb; replace HB := cW HB hb; (try clear hb)))
   go_ret
   exact ⟨re_, uW HB.out⟩
 ·
  rw [if_neg c3] at H
  have c3b0 : (t190 == 0) = false := beq_eq_false_iff_ne.mpr c3
  have c3b1 : (t190 != 0) = true := bne_iff_ne.mpr c3
  obtain rfl := Option.some.inj H
  go_enter Tryz.func48, Tryz.ntmps48
  go_wp2_with (first | (refine gL (some 7) rfl Tryz.func65 #[.string a0] ?_; (with_reducible refine (tag_Parse.calls (hL := ld) k a0 t189 t190 _ A2.out).mono ?_); rintro e w12 ⟨v191, rfl, ho0, hb⟩; refine ⟨_, rfl, ?_⟩; have HO192 := Aside0.mk (Kd.R_lower ho0 (below_size (uW HB.out))); replace HB := cW HB hb; (try clear hb); (try clear ho0)))
  go_ret
  exact ⟨re_, uW HB.out⟩
def row_Right_1.f (k : Nat) (a0_0 : Int) (a0_1 : ByteArray) (a0_2 : Int) (a0_3 : Bool) : Option (Bool) := (row_group.f k a0_1).bind fun t195 => (some (t195 != 0))
theorem row_Right_1.mono : ∀ a0 a1 a2 a3 k, LeO (row_Right_1.f k a0 a1 a2 a3) (row_Right_1.f (k + 1) a0 a1 a2 a3) := by
 intro a0 a1 a2 a3 k
 unfold row_Right_1.f
 exact lo
instance row_Right_1.mI {a0 a1 a2 a3 k} : LeC (row_Right_1.f k a0 a1 a2 a3) (row_Right_1.f (k + 1) a0 a1 a2 a3) := ⟨row_Right_1.mono _ _ _ _ _⟩
theorem row_Right_1.calls (k : Nat) (a0_0 : Int) (a0_1 : ByteArray) (a0_2 : Int) (a0_3 : Bool) (r : Bool) (w : World) (hL : LD w) (h : row_Right_1.f k a0_0 a0_1 a0_2 a0_3 = some r) :
 Calls Tryz.prog 47 #[.agg #[.int .i64 a0_0, .string a0_1, .int .i64 a0_2, .bool a0_3]] w fun e w' => e = .returned (.bool r) ∧ Below w.heap.size w w' := by
 have HL0 := Aside0.mk hL
 clear hL
 have hu45 := Tryz.underlying45
 have HB := Aside0.mk (Below.refl w.heap.size w)
 have H : ((row_group.f k a0_1).bind fun t195 => (some (t195 != 0))) = some r := h
 clear h
 obtain ⟨t195, A2, H⟩ := bs H
 try dsimp only at H
 obtain rfl := Option.some.inj H
 go_enter Tryz.func47, Tryz.ntmps47
 go_wp2_with (first | ((with_reducible refine gate_dst (N := 1) rfl ?_); refine bx (N := 1) #[.int .i64 a0_0, .string a0_1, .int .i64 a0_2, .bool a0_3] 45 ?_; intro gb194 hg w3 hbox hb; have BK194 := Aside0.mk (hbox); have GW194 := gw hg (uW HB.out); have GE194 := GW194; replace HB := cW HB hb; clear hb hbox hg; obtain ⟨hcz4_0, hcz4_1, hcz4_2, hcz4_3, hfz4_0, hfz4_1, hfz4_2, hfz4_3⟩ := z4 BK194) | (refine gL (some 5) rfl Tryz.func48 #[.string a0_1] ?_; (with_reducible refine (row_group.calls (hL := ld) k a0_1 t195 _ A2.out).mono ?_); rintro e w5 ⟨rfl, hb⟩; refine ⟨_, rfl, ?_⟩; replace BK194 := cB BK194 hb; replace HB := Aside0.mk (below_step bl hb); (try clear hb)))
 go_ret
 exact ⟨re_, bl⟩
theorem api_Row_with_47_64.goesV_ {P : Program} {ops : Array Oper} {Q : Exit → Act → World → Prop} {oi : Oper} {N : Option Tmp} {a : Act} {w : World} {K : Act → World → Prop} {f : FuncId} {fn : Func} {cal : Operand} {as_ : Array Operand} {ts : Array TypeId} (hf : P.funcs[f]? = some fn) (hname : (fn.name == "runtime.NumGoroutine") = false) (hb : fn.body.isSome = true) (args : Array Value)
 (hw : Region.wanted oi (yielded ops a.tmps) = true) (hN : oi.dst = N) (hop : oi.op = .call { callee := .value cal, args := as_, argTypes := ts }) (hev : a.eval cal = .func (.func f) #[] #[]) (hargs : as_.map a.eval = args)
 (h : Calls P f args w fun e w' => ∃ v, e = .returned v ∧ K (a.put N v) w') : if Region.wanted oi (yielded ops a.tmps) = true then Oper.wp P oi a w K Q else K (a.put N undef) w := by
 refine call_ f args hw hN ?_ h
 have he := enters_ hf hname hb args w
 unfold execOp
 simp [hop, resolve, Deferred.ofValue, invoke, hev, hargs, he]
theorem api_Row_with_47_64.goesVL_ {P : Program} {ops : Array Oper} {Q : Exit → Act → World → Prop} {rest : List Oper} {oi : Oper} {a : Act} {w : World} (N : Option Tmp) (hd : oi.dst = N) (hg : oi.guard = none) {f : FuncId} {fn : Func} {cal : Operand} {as_ : Array Operand} {ts : Array TypeId} (hf : P.funcs[f]? = some fn) (hname : (fn.name == "runtime.NumGoroutine") = false) (hb : fn.body.isSome = true) (args : Array Value)
 (hop : oi.op = .call { callee := .value cal, args := as_, argTypes := ts }) (hev : a.eval cal = .func (.func f) #[] #[]) (hargs : as_.map a.eval = args)
 (h : Calls P f args w fun e w' => ∃ v, e = .returned v ∧ wpList P ops Q rest (a.put N v) w') : wpList P ops Q (oi :: rest) a w := by
 refine wpList_plain hg fun K hK => ?_
 have he := enters_ hf hname hb args w
 have hrun : (execOp a.eval oi).run P w = .ok (.enter f args) w := by
  unfold execOp
  simp [hop, resolve, Deferred.ofValue, invoke, hev, hargs, he]
 unfold Oper.wp
 rw [hrun, Oper.upon_enter]
 refine h.mono fun e w'' hh => ?_
 obtain ⟨v, rfl, hk⟩ := hh
 subst hd
 exact hK _ _ hk
def api_Row_with_47_64.l0 : Nat → List (S45) → Int → Int → Option (Int)
 | 0, _, _, _ => none
 | k + 1, x0, x7, x8 => if x8 < x7 then (if 0 ≤ x8 then (if x8 < (x0.length : Int) then ((row_Right_1.f k ((rd_T45 x0 x8).f0) ((rd_T45 x0 x8).f1) ((rd_T45 x0 x8).f2.f0) ((rd_T45 x0 x8).f2.f1)).bind fun t197 => (if t197 = true then (some x8) else (api_Row_with_47_64.l0 k x0 x7 (wrap64 (x8 + 1))))) else (none)) else (none)) else (some (-1))
def api_Row_with_47_64.f (k : Nat) (l0 : List (S45)) : Option (Int) := api_Row_with_47_64.l0 k l0 (l0.length : Int) 0
theorem api_Row_with_47_64.mono_l : ∀ k, (∀ y0 y1 y2, LeC (api_Row_with_47_64.l0 k y0 y1 y2) (api_Row_with_47_64.l0 (k + 1) y0 y1 y2))
 | 0 => fun _ _ _ => ⟨fun r h => by simp [api_Row_with_47_64.l0] at h⟩
 | k + 1 => by have ih0 := api_Row_with_47_64.mono_l k; exact fun _ _ _ => by unfold api_Row_with_47_64.l0; exact lm
theorem api_Row_with_47_64.mono : ∀ a0 k, LeO (api_Row_with_47_64.f k a0) (api_Row_with_47_64.f (k + 1) a0) := by
 intro a0 k
 have ih0 := api_Row_with_47_64.mono_l k
 unfold api_Row_with_47_64.f
 exact lo
instance api_Row_with_47_64.mI {a0 k} : LeC (api_Row_with_47_64.f k a0) (api_Row_with_47_64.f (k + 1) a0) := ⟨api_Row_with_47_64.mono _ _⟩
theorem api_Row_with_47_64.calls (k : Nat) (A0 : Option Addr) (c0 : Nat) (l0 : List (S45)) (r : Int) (w : World) (hr0 : Kd.C k45 w A0 l0.length l0) (hc0 : l0.length ≤ c0) (hL : LD w) (h : api_Row_with_47_64.f k l0 = some r) :
 Calls Tryz.prog 64 #[.slice A0 l0.length c0, .func (.func 47) #[] #[]] w fun e w' => e = .returned (.int .i64 r) ∧ Below w.heap.size w w' := by
 have HL0 := Aside0.mk hL
 clear hL
 have hu45 := Tryz.underlying45
 have HR0 := Aside0.mk hr0
 have HC0 := Aside0.mk hc0
 clear hr0 hc0
 have HB := Aside0.mk (Below.refl w.heap.size w)
 have H : (api_Row_with_47_64.l0 k l0 (l0.length : Int) 0) = some r := h
 clear h
 have H' := Aside0.mk H
 clear H
 have eg47 : ∀ args w, (callFunc 47 args).run Tryz.prog w = .ok (.enter 47 args) w := enters_of Tryz.func47 (by kernel_rfl) rfl
 go_enter Tryz.func64, Tryz.ntmps64
 go_wp2
 go_loopg [8] k (fun kq v8 w' => ∃ (x8_1 : Int), v8 = .int .i64 x8_1 ∧ Aside0 (api_Row_with_47_64.l0 kq l0 (l0.length : Int) x8_1 = some r) ∧ Aside0 (kq ≤ k) ∧ Aside0 (Below w.heap.size w w'))
 case atStart => exact ⟨(0), rs_, H', ⟨Nat.le_refl _⟩, ⟨uW HB.out⟩⟩
 case round =>
  clear H'
  obtain ⟨x8_1, rfl, HA, HK1, HB⟩ := hrel
  cases gk with
  | zero => exact absurd HA.out (by simp [api_Row_with_47_64.l0])
  | succ k1 =>
   have H := HA.out
   clear HA
   simp only [api_Row_with_47_64.l0] at H
   by_cases c2 : x8_1 < (l0.length : Int)
   ·
    rw [if_pos c2] at H
    have c2b0 : decide (x8_1 < (l0.length : Int)) = true := decide_eq_true c2
    clear c2
    obtain ⟨c3b0, H⟩ := gdd H
    obtain ⟨c4b0, H⟩ := gdd H
    obtain ⟨t197, A5, H⟩ := bs H
    try dsimp only at H
    by_cases c6 : t197 = true
    ·
     subst c6
     rw [if_pos rfl] at H
     obtain rfl := Option.some.inj H
     have p196 : 0 ≤ (x8_1 : Int) := od
     have q196 : x8_1 < (l0.length : Int) := od
     obtain ⟨ad196, e196, hx196_0, hx196_1, hx196_2, hx196_3⟩ := at_T45 HR0.out x8_1 p196 q196
     cases e196
     replace hx196_0 := kc HB hx196_0
     replace hx196_1 := kc HB hx196_1
     replace hx196_2 := kc HB hx196_2
     replace hx196_3 := kc HB hx196_3
     replace p196 := eq_true p196
     replace q196 := eq_true q196
     go_wp2_with (first | (refine api_Row_with_47_64.goesVL_ (some 16) rfl rfl Tryz.func47 (by kernel_rfl) rfl #[.agg #[.int .i64 ((rd_T45 l0 x8_1).f0), .string ((rd_T45 l0 x8_1).f1), .int .i64 ((rd_T45 l0 x8_1).f2.f0), .bool ((rd_T45 l0 x8_1).f2.f1)]] rfl (by rfl) (by (try simp only [List.map_toArray, List.map_cons, List.map_nil]); first | done | rfl | (simp only [List.length_drop, List.length_take]; rfl)) ?_; (with_reducible refine (row_Right_1.calls (hL := ld) k1 ((rd_T45 l0 x8_1).f0) ((rd_T45 l0 x8_1).f1) ((rd_T45 l0 x8_1).f2.f0) ((rd_T45 l0 x8_1).f2.f1) true _ A5.out).mono ?_); rintro e w7 ⟨rfl, hb⟩; refine ⟨_, rfl, ?_⟩; replace HB := cW HB hb; (try clear hb)))
     go_ret
     exact ⟨re_, uW HB.out⟩
    ·
     replace c6 := Bool.eq_false_iff.mpr c6
     subst c6
     rw [if_neg (show ¬ (false = true) by decide)] at H
     have H' := Aside0.mk H
     clear H
     have p196 : 0 ≤ (x8_1 : Int) := od
     have q196 : x8_1 < (l0.length : Int) := od
     obtain ⟨ad196, e196, hx196_0, hx196_1, hx196_2, hx196_3⟩ := at_T45 HR0.out x8_1 p196 q196
     cases e196
     replace hx196_0 := kc HB hx196_0
     replace hx196_1 := kc HB hx196_1
     replace hx196_2 := kc HB hx196_2
     replace hx196_3 := kc HB hx196_3
     replace p196 := eq_true p196
     replace q196 := eq_true q196
     go_wp2_with (first | (refine api_Row_with_47_64.goesVL_ (some 16) rfl rfl Tryz.func47 (by kernel_rfl) rfl #[.agg #[.int .i64 ((rd_T45 l0 x8_1).f0), .string ((rd_T45 l0 x8_1).f1), .int .i64 ((rd_T45 l0 x8_1).f2.f0), .bool ((rd_T45 l0 x8_1).f2.f1)]] rfl (by rfl) (by (try simp only [List.map_toArray, List.map_cons, List.map_nil]); first | done | rfl | (simp only [List.length_drop, List.length_take]; rfl)) ?_; (with_reducible refine (row_Right_1.calls (hL := ld) k1 ((rd_T45 l0 x8_1).f0) ((rd_T45 l0 x8_1).f1) ((rd_T45 l0 x8_1).f2.f0) ((rd_T45 l0 x8_1).f2.f1) false _ A5.out).mono ?_); rintro e w8 ⟨rfl, hb⟩; refine ⟨_, rfl, ?_⟩; replace HB := cW HB hb; (try clear hb)))
     go_roundg k1
     case measure => have := HK1.out; omega
     case rel => exact ⟨(wrap64 (x8_1 + 1)), rs_, H', ⟨by have := HK1.out; omega⟩, ⟨uW HB.out⟩⟩
   ·
    rw [if_neg c2] at H
    have c2b0 : decide (x8_1 < (l0.length : Int)) = false := decide_eq_false c2
    clear c2
    obtain rfl := Option.some.inj H
    go_wp2
    go_ret
    exact ⟨re_, uW HB.out⟩
def api_Row_with_47_46.f (k : Nat) (l0 : List (S45)) : Option (Bool) := (api_Row_with_47_64.f k l0).bind fun t198 => (some (decide (t198 ≥ 0)))
theorem api_Row_with_47_46.mono : ∀ a0 k, LeO (api_Row_with_47_46.f k a0) (api_Row_with_47_46.f (k + 1) a0) := by
 intro a0 k
 unfold api_Row_with_47_46.f
 exact lo
instance api_Row_with_47_46.mI {a0 k} : LeC (api_Row_with_47_46.f k a0) (api_Row_with_47_46.f (k + 1) a0) := ⟨api_Row_with_47_46.mono _ _⟩
theorem api_Row_with_47_46.calls (k : Nat) (A0 : Option Addr) (c0 : Nat) (l0 : List (S45)) (r : Bool) (w : World) (hr0 : Kd.C k45 w A0 l0.length l0) (hc0 : l0.length ≤ c0) (hL : LD w) (h : api_Row_with_47_46.f k l0 = some r) :
 Calls Tryz.prog 46 #[.slice A0 l0.length c0, .func (.func 47) #[] #[]] w fun e w' => e = .returned (.bool r) ∧ Below w.heap.size w w' := by
 have HL0 := Aside0.mk hL
 clear hL
 have HR0 := Aside0.mk hr0
 have HC0 := Aside0.mk hc0
 clear hr0 hc0
 have HB := Aside0.mk (Below.refl w.heap.size w)
 have H : ((api_Row_with_47_64.f k l0).bind fun t198 => (some (decide (t198 ≥ 0)))) = some r := h
 clear h
 obtain ⟨t198, A2, H⟩ := bs H
 try dsimp only at H
 obtain rfl := Option.some.inj H
 go_enter Tryz.func46, Tryz.ntmps46
 go_wp2_with (first | (refine gL (some 7) rfl Tryz.func64 #[.slice A0 l0.length c0, (.func (.func 47) #[] #[])] ?_; (with_reducible refine (api_Row_with_47_64.calls (hL := ld) k _ _ l0 t198 _ ?side1 ?side2 A2.out).mono ?_); (case side1 => exact uC <| HR0.out); (case side2 => exact HC0.out); rintro e w3 ⟨rfl, hb⟩; refine ⟨_, rfl, ?_⟩; replace HB := cW HB hb; (try clear hb)))
 go_ret
 exact ⟨re_, uW HB.out⟩
def row_Right.f (k : Nat) (l0 : List (S45)) : Option (Bool) := (row_rise.f k l0).bind fun t199 => (if t199 = true then ((api_Row_with_47_46.f k l0).bind fun t200 => (some (!t200))) else (some false))
theorem row_Right.mono : ∀ a0 k, LeO (row_Right.f k a0) (row_Right.f (k + 1) a0) := by
 intro a0 k
 unfold row_Right.f
 exact lo
instance row_Right.mI {a0 k} : LeC (row_Right.f k a0) (row_Right.f (k + 1) a0) := ⟨row_Right.mono _ _⟩
theorem row_Right.calls (k : Nat) (A0 : Option Addr) (c0 : Nat) (l0 : List (S45)) (r : Bool) (w : World) (hr0 : Kd.C k45 w A0 l0.length l0) (hc0 : l0.length ≤ c0) (hL : LD w) (h : row_Right.f k l0 = some r) :
 Calls Tryz.prog 24 #[.slice A0 l0.length c0] w fun e w' => e = .returned (.bool r) ∧ Below w.heap.size w w' := by
 have HL0 := Aside0.mk hL
 clear hL
 have HR0 := Aside0.mk hr0
 have HC0 := Aside0.mk hc0
 clear hr0 hc0
 have HB := Aside0.mk (Below.refl w.heap.size w)
 have H : ((row_rise.f k l0).bind fun t199 => (if t199 = true then ((api_Row_with_47_46.f k l0).bind fun t200 => (some (!t200))) else (some false))) = some r := h
 clear h
 obtain ⟨t199, A2, H⟩ := bs H
 try dsimp only at H
 by_cases c3 : t199 = true
 ·
  subst c3
  rw [if_pos rfl] at H
  obtain ⟨t200, A4, H⟩ := bs H
  try dsimp only at H
  obtain rfl := Option.some.inj H
  go_enter Tryz.func24, Tryz.ntmps24
  go_wp2_with (first | (refine gL (some 4) rfl Tryz.func45 #[.slice A0 l0.length c0] ?_; (with_reducible refine (row_rise.calls k _ _ l0 true _ ?side1 ?side2 A2.out).mono ?_); (case side1 => exact uC <| HR0.out); (case side2 => exact HC0.out); rintro e w5 ⟨rfl, hb⟩; refine ⟨_, rfl, ?_⟩; replace HB := cW HB hb; (try clear hb)) | (go_at_call 46; (with_reducible refine (api_Row_with_47_46.calls (hL := ld) k _ _ l0 t200 _ ?side1 ?side2 A4.out).mono ?_); (case side1 => exact uC <| (Kd.C_below HR0.out HB.out)); (case side2 => exact HC0.out); rintro e w6 ⟨rfl, hb⟩; replace HB := cW HB hb; (try clear hb)))
  go_ret
  exact ⟨re_, uW HB.out⟩
 ·
  replace c3 := Bool.eq_false_iff.mpr c3
  subst c3
  rw [if_neg (show ¬ (false = true) by decide)] at H
  obtain rfl := Option.some.inj H
  go_enter Tryz.func24, Tryz.ntmps24
  go_wp2_with (first | (refine gL (some 4) rfl Tryz.func45 #[.slice A0 l0.length c0] ?_; (with_reducible refine (row_rise.calls k _ _ l0 false _ ?side1 ?side2 A2.out).mono ?_); (case side1 => exact uC <| HR0.out); (case side2 => exact HC0.out); rintro e w7 ⟨rfl, hb⟩; refine ⟨_, rfl, ?_⟩; replace HB := cW HB hb; (try clear hb)))
  go_ret
  exact ⟨re_, uW HB.out⟩
def diff_gone.f (a0_0 : Int) (a0_1 : ByteArray) (a0_2 : Int) (a0_3 : Bool) : Option (Int × ByteArray × Int × Bool × Bool) := some (a0_0, a0_1, 0, false, true)
theorem diff_gone.calls (a0_0 : Int) (a0_1 : ByteArray) (a0_2 : Int) (a0_3 : Bool) (r1 : Int) (r2 : ByteArray) (r3 : Int) (r4 : Bool) (r5 : Bool) (w : World) (h : diff_gone.f a0_0 a0_1 a0_2 a0_3 = some (r1, r2, r3, r4, r5)) :
 Calls Tryz.prog 26 #[.agg #[.int .i64 a0_0, .string a0_1, .int .i64 a0_2, .bool a0_3]] w fun e w' => e = .returned (.agg #[.int .i64 r1, .string r2, .int .i64 r3, .bool r4, .bool r5]) ∧ Below w.heap.size w w' := by
 have hu45 := Tryz.underlying45
 have hu48 := Tryz.underlying48
 have HB := Aside0.mk (Below.refl w.heap.size w)
 have H : (some (a0_0, a0_1, 0, false, true)) = some (r1, r2, r3, r4, r5) := h
 clear h
 simp only [Option.some.injEq, Prod.mk.injEq] at H
 obtain ⟨rfl, rfl, rfl, rfl, rfl⟩ := H
 go_enter Tryz.func26, Tryz.ntmps26
 go_wp2_with (first | ((with_reducible refine gate_dst (N := 1) rfl ?_); refine bx (N := 1) #[.int .i64 a0_0, .string a0_1, .int .i64 a0_2, .bool a0_3] 45 ?_; intro gb201 hg w2 hbox hb; have BK201 := Aside0.mk (hbox); have GW201 := gw hg (uW HB.out); have GE201 := GW201; replace HB := cW HB hb; clear hb hbox hg) | ((with_reducible refine gate_dst (N := 2) rfl ?_); refine bx (N := 2) #[.int .i64 0, .string (⟨#[]⟩ : ByteArray), .int .i64 0, .bool false, .bool false] 48 ?_; intro gb202 hg w3 hbox hb; have BK202 := Aside0.mk (hbox); have GW202 := gw hg bl; have GE202 := GW202; replace HB := Aside0.mk (below_step bl hb); have NB201_202 := Aside0.mk ((by rw [hg]; exact Nat.ne_of_lt (blk_lt (g := gb201) (o := .cells #[.int .i64 a0_0, .string a0_1, .int .i64 a0_2, .bool a0_3] 45 (0, 0)) (uB BK201.out)) : gb201 ≠ gb202)); have NB202_201 := Aside0.mk ((by rw [hg]; exact Nat.ne_of_gt (blk_lt (g := gb201) (o := .cells #[.int .i64 a0_0, .string a0_1, .int .i64 a0_2, .bool a0_3] 45 (0, 0)) (uB BK201.out)) : gb202 ≠ gb201)); replace BK201 := cB BK201 hb; clear hb hbox hg; have hnb4 := NB201_202.out; have hnc4 := NB202_201.out; obtain ⟨hcz5_0, hcz5_1, hcz5_2, hcz5_3, hfz5_0, hfz5_1, hfz5_2, hfz5_3⟩ := z4 BK201; obtain ⟨hcz6_0, hcz6_1, hcz6_2, hcz6_3, hcz6_4, hfz6_0, hfz6_1, hfz6_2, hfz6_3, hfz6_4⟩ := z5 BK202) | ((with_reducible refine gate_store (t := 48) (p := 2) rfl ?_); refine store_event (t := 48) (p := 2) (v := ?vo_w7) (w1 := (((((w3.setCell ⟨gb202, 0, none⟩ (.int .i64 a0_0)).setCell ⟨gb202, 1, none⟩ (.string a0_1)).setCell ⟨gb202, 2, none⟩ (.int .i64 0)).setCell ⟨gb202, 3, none⟩ (.bool false)).setCell ⟨gb202, 4, none⟩ (.bool true))) ?hg ?ho ?hn ?hr ?_; (case ho => rfl); (case hg => rfl); (case hn => rfl); (case hr => first | (go_simp; done) | (go_simp; rfl)); intro w7 hw; have n0_ : Aside0 (w7.heap[gb201]? = some (.cells #[.int .i64 a0_0, .string a0_1, .int .i64 a0_2, .bool a0_3] 45 (0, 0))) := ⟨(by rw [hw]; exact (by (with_reducible repeat (first | refine blk_drewN ?_ _ | refine blk_drew ?_ | refine blk_alloc ?_ _)); refine blk_far ?_ NB201_202.out _; (with_reducible repeat (first | refine blk_drewN ?_ _ | refine blk_drew ?_ | refine blk_alloc ?_ _)); refine blk_far ?_ NB201_202.out _; (with_reducible repeat (first | refine blk_drewN ?_ _ | refine blk_drew ?_ | refine blk_alloc ?_ _)); refine blk_far ?_ NB201_202.out _; (with_reducible repeat (first | refine blk_drewN ?_ _ | refine blk_drew ?_ | refine blk_alloc ?_ _)); refine blk_far ?_ NB201_202.out _; (with_reducible repeat (first | refine blk_drewN ?_ _ | refine blk_drew ?_ | refine blk_alloc ?_ _)); refine blk_far ?_ NB201_202.out _; exact uB <| BK201.out))⟩; have n1_ : Aside0 (w7.heap[gb202]? = some (.cells #[.int .i64 a0_0, .string a0_1, .int .i64 0, .bool false, .bool true] 48 (0, 0))) := ⟨(by rw [hw]; exact (by (with_reducible repeat (first | refine blk_drewN ?_ _ | refine blk_drew ?_ | refine blk_alloc ?_ _)); refine blk_put (cs := #[.int .i64 a0_0, .string a0_1, .int .i64 0, .bool false, .bool false]) ?_ 4 _ rfl; (with_reducible repeat (first | refine blk_drewN ?_ _ | refine blk_drew ?_ | refine blk_alloc ?_ _)); refine blk_put (cs := #[.int .i64 a0_0, .string a0_1, .int .i64 0, .bool false, .bool false]) ?_ 3 _ rfl; (with_reducible repeat (first | refine blk_drewN ?_ _ | refine blk_drew ?_ | refine blk_alloc ?_ _)); refine blk_put (cs := #[.int .i64 a0_0, .string a0_1, .int .i64 0, .bool false, .bool false]) ?_ 2 _ rfl; (with_reducible repeat (first | refine blk_drewN ?_ _ | refine blk_drew ?_ | refine blk_alloc ?_ _)); refine blk_put (cs := #[.int .i64 a0_0, .string (⟨#[]⟩ : ByteArray), .int .i64 0, .bool false, .bool false]) ?_ 1 _ rfl; (with_reducible repeat (first | refine blk_drewN ?_ _ | refine blk_drew ?_ | refine blk_alloc ?_ _)); refine blk_put (cs := #[.int .i64 0, .string (⟨#[]⟩ : ByteArray), .int .i64 0, .bool false, .bool false]) ?_ 0 _ rfl; exact uB <| BK202.out))⟩; have n2_ : Aside0 (Below w.heap.size w w7) := ⟨(by rw [hw]; exact bl)⟩; clear hw; clear BK201; clear BK202; clear HB; have BK201 := n0_; have BK202 := n1_; have HB := n2_; clear n0_ n1_ n2_))
 refine bodyPost_ret (results_cell_row rfl _ _ gb202 48 #[.int .i64 a0_0, .string a0_1, .int .i64 0, .bool false, .bool true] (0, 0) _ rfl (uB BK202.out) Tryz.underlying48 rfl (by kernel_rfl)) rfl ?_
 exact ⟨re_, bl⟩
attribute [local go_sem high] eqA48
def diff_right.l0 : Nat → List (S45) → List (S48) → Int → Int → Option (Bool)
 | 0, _, _, _, _ => none
 | k + 1, x3, x6, x7, x8 => if x8 < x7 then (if 0 ≤ x8 then (if x8 < (x6.length : Int) then (if (rd_T48 x6 x8).f1 = true then ((diff_gone.f ((rd_T48 x6 x8).f0.f0) ((rd_T48 x6 x8).f0.f1) ((rd_T48 x6 x8).f0.f2.f0) ((rd_T48 x6 x8).f0.f2.f1)).bind fun bt298 => (if ((!(((rd_T48 x6 x8).f0.f0) == bt298.1) || (!((((rd_T48 x6 x8).f0.f1).toList) == bt298.2.1.toList) || ((!(((rd_T48 x6 x8).f0.f2.f0) == bt298.2.2.1) || (!(((rd_T48 x6 x8).f0.f2.f1) == bt298.2.2.2.1)))))) || (!(((rd_T48 x6 x8).f1) == bt298.2.2.2.2))) = true then (some false) else (if x3.length < 3518437208883 then (diff_right.l0 k (x3 ++ [(⟨(rd_T48 x6 x8).f0.f0, (rd_T48 x6 x8).f0.f1, (⟨(rd_T48 x6 x8).f0.f2.f0, (rd_T48 x6 x8).f0.f2.f1⟩ : S43)⟩ : S45)]) x6 x7 (wrap64 (x8 + 1))) else (none)))) else (if x3.length < 3518437208883 then (diff_right.l0 k (x3 ++ [(⟨(rd_T48 x6 x8).f0.f0, (rd_T48 x6 x8).f0.f1, (⟨(rd_T48 x6 x8).f0.f2.f0, (rd_T48 x6 x8).f0.f2.f1⟩ : S43)⟩ : S45)]) x6 x7 (wrap64 (x8 + 1))) else (none))) else (none)) else (none)) else ((row_Right.f k x3).bind fun t309 => (some t309))
def diff_right.f (k : Nat) (l0 : List (S48)) : Option (Bool) := diff_right.l0 k ([] : List (S45)) l0 (l0.length : Int) 0
theorem diff_right.mono_l : ∀ k, (∀ y0 y1 y2 y3, LeC (diff_right.l0 k y0 y1 y2 y3) (diff_right.l0 (k + 1) y0 y1 y2 y3))
 | 0 => fun _ _ _ _ => ⟨fun r h => by simp [diff_right.l0] at h⟩
 | k + 1 => by have ih0 := diff_right.mono_l k; exact fun _ _ _ _ => by unfold diff_right.l0; exact lm
theorem diff_right.mono : ∀ a0 k, LeO (diff_right.f k a0) (diff_right.f (k + 1) a0) := by
 intro a0 k
 have ih0 := diff_right.mono_l k
 unfold diff_right.f
 exact lo
instance diff_right.mI {a0 k} : LeC (diff_right.f k a0) (diff_right.f (k + 1) a0) := ⟨diff_right.mono _ _⟩
def diff_right.T5 : Bool × List (List Nat × List Nat) := (true, [([], []), ([0], [0]), ([1], [1]), ([2], [2]), ([2], [2]), ([4, 2], [2, 4]), ([5, 2, 2], [2, 5]), ([3, 6, 2], [2, 3, 6]), ([2, 7], [2, 7])])
def diff_right.B5 : List Nat := [0, 1, 3, 7, 7, 23, 55, 127, 255]
theorem diff_right.tab5 : rtab .any (opsOf Tryz.f36 5) = diff_right.T5 := by kernel_rfl
theorem diff_right.bits5 : waitsOk diff_right.T5.2 diff_right.B5 = true := by kernel_rfl
theorem diff_right.calls (k : Nat) (A0 : Option Addr) (c0 : Nat) (l0 : List (S48)) (r : Bool) (w : World) (hr0 : Kd.C k48 w A0 l0.length l0) (hc0 : l0.length ≤ c0) (hL : LD w) (h : diff_right.f k l0 = some r) :
 Calls Tryz.prog 36 #[.slice A0 l0.length c0] w fun e w' => e = .returned (.bool r) ∧ Below w.heap.size w w' := by
 have HL0 := Aside0.mk hL
 clear hL
 have hu48 := Tryz.underlying48
 have hu45 := Tryz.underlying45
 have HR0 := Aside0.mk hr0
 have HC0 := Aside0.mk hc0
 clear hr0 hc0
 have HB := Aside0.mk (Below.refl w.heap.size w)
 have H : (diff_right.l0 k ([] : List (S45)) l0 (l0.length : Int) 0) = some r := h
 clear h
 have H' := Aside0.mk H
 clear H
 go_enter Tryz.func36, Tryz.ntmps36
 go_wp2
 go_loopg [3, 8] k (fun kq v3 v8 w' => ∃ (x3_1 : List (S45)) (x8_1 : Int), v8 = .int .i64 x8_1 ∧ Aside0 (diff_right.l0 kq x3_1 l0 (l0.length : Int) x8_1 = some r) ∧ Aside0 (kq ≤ k) ∧ Aside0 (Kd.R k45 45 w' w.heap.size (fun _ => True) v3 x3_1) ∧ Aside0 (Below w.heap.size w w'))
 case atStart => exact ⟨(([] : List (S45))), (0), rs_, H', ⟨Nat.le_refl _⟩, ⟨nl_⟩, ⟨uW HB.out⟩⟩
 case round =>
  clear H'
  obtain ⟨x3_1, x8_1, rfl, HA, HK1, HO_3, HB⟩ := hrel
  cases gk with
  | zero => exact absurd HA.out (by simp [diff_right.l0])
  | succ k1 =>
   have H := HA.out
   clear HA
   simp only [diff_right.l0] at H
   by_cases c2 : x8_1 < (l0.length : Int)
   ·
    rw [if_pos c2] at H
    have c2b0 : decide (x8_1 < (l0.length : Int)) = true := decide_eq_true c2
    clear c2
    obtain ⟨c3b0, H⟩ := gdd H
    obtain ⟨c4b0, H⟩ := gdd H
    obtain ⟨bq5, hbq5⟩ : ∃ b_ : Bool, b_ = ((rd_T48 l0 x8_1).f1) := ⟨_, rfl⟩
    replace H : (if bq5 = true then ((diff_gone.f ((rd_T48 l0 x8_1).f0.f0) ((rd_T48 l0 x8_1).f0.f1) ((rd_T48 l0 x8_1).f0.f2.f0) ((rd_T48 l0 x8_1).f0.f2.f1)).bind fun bt298 => (if ((!(((rd_T48 l0 x8_1).f0.f0) == bt298.1) || (!((((rd_T48 l0 x8_1).f0.f1).toList) == bt298.2.1.toList) || ((!(((rd_T48 l0 x8_1).f0.f2.f0) == bt298.2.2.1) || (!(((rd_T48 l0 x8_1).f0.f2.f1) == bt298.2.2.2.1)))))) || (!((bq5) == bt298.2.2.2.2))) = true then (some false) else (if x3_1.length < 3518437208883 then (diff_right.l0 k1 (x3_1 ++ [(⟨(rd_T48 l0 x8_1).f0.f0, (rd_T48 l0 x8_1).f0.f1, (⟨(rd_T48 l0 x8_1).f0.f2.f0, (rd_T48 l0 x8_1).f0.f2.f1⟩ : S43)⟩ : S45)]) l0 (l0.length : Int) (wrap64 (x8_1 + 1))) else (none)))) else (if x3_1.length < 3518437208883 then (diff_right.l0 k1 (x3_1 ++ [(⟨(rd_T48 l0 x8_1).f0.f0, (rd_T48 l0 x8_1).f0.f1, (⟨(rd_T48 l0 x8_1).f0.f2.f0, (rd_T48 l0 x8_1).f0.f2.f1⟩ : S43)⟩ : S45)]) l0 (l0.length : Int) (wrap64 (x8_1 + 1))) else (none))) = some r := by rw [← hbq5] at H; exact H
    have Nbq5 := Aside0.mk hbq5
    clear hbq5
    by_cases c6 : bq5 = true
    ·
     subst c6
     rw [if_pos rfl] at H
     obtain ⟨⟨t298, t299, t300, t301, t302⟩, A7, H⟩ := bs H
     try dsimp only at H
     by_cases c8 : ((!(((rd_T48 l0 x8_1).f0.f0) == t298) || (!((((rd_T48 l0 x8_1).f0.f1).toList) == t299.toList) || ((!(((rd_T48 l0 x8_1).f0.f2.f0) == t300) || (!(((rd_T48 l0 x8_1).f0.f2.f1) == t301)))))) || (!((true) == t302))) = true
     ·
      rw [if_pos c8] at H
      have c8b0 : ((!(((rd_T48 l0 x8_1).f0.f0) == t298) || (!((((rd_T48 l0 x8_1).f0.f1).toList) == t299.toList) || ((!(((rd_T48 l0 x8_1).f0.f2.f0) == t300) || (!(((rd_T48 l0 x8_1).f0.f2.f1) == t301)))))) || (!((true) == t302))) = true := c8
      (try simp only [Bool.true_beq, Bool.false_beq, beq_true, beq_false] at c8b0)
      clear c8
      obtain rfl := Option.some.inj H
      have p296 : 0 ≤ (x8_1 : Int) := od
      have q296 : x8_1 < (l0.length : Int) := od
      obtain ⟨ad296, e296, hx296_0, hx296_1, hx296_2, hx296_3, hx296_4⟩ := at_T48 HR0.out x8_1 p296 q296
      (try rw [← Nbq5.out] at hx296_3)
      (try rw [← Nbq5.out] at hx296_4)
      cases e296
      replace hx296_0 := kc HB hx296_0
      replace hx296_1 := kc HB hx296_1
      replace hx296_2 := kc HB hx296_2
      replace hx296_3 := kc HB hx296_3
      replace hx296_4 := kc HB hx296_4
      replace p296 := eq_true p296
      replace q296 := eq_true q296
      try go_wp2_with (first | ((with_reducible refine gate_dst (N := 5) rfl ?_); refine bx (N := 5) #[.int .i64 0, .string (⟨#[]⟩ : ByteArray), .int .i64 0, .bool false, .bool false] 48 ?_; intro gb297 hg w9 hbox hb; replace HO_3 := cR HO_3 hb; have BK297 := Aside0.mk (hbox); have GW297 := gw hg (uW HB.out); have GE297 := GW297; replace HB := cW HB hb; clear hb hbox hg; obtain ⟨hcz10_0, hcz10_1, hcz10_2, hcz10_3, hcz10_4, hfz10_0, hfz10_1, hfz10_2, hfz10_3, hfz10_4⟩ := z5 BK297) | ((with_reducible refine gate_store (t := 48) (p := 5) rfl ?_); refine store_event (t := 48) (p := 5) (v := ?vo_w11) (w1 := (((((w9.setCell ⟨gb297, 0, none⟩ (.int .i64 ((rd_T48 l0 x8_1).f0.f0))).setCell ⟨gb297, 1, none⟩ (.string ((rd_T48 l0 x8_1).f0.f1))).setCell ⟨gb297, 2, none⟩ (.int .i64 ((rd_T48 l0 x8_1).f0.f2.f0))).setCell ⟨gb297, 3, none⟩ (.bool ((rd_T48 l0 x8_1).f0.f2.f1))).setCell ⟨gb297, 4, none⟩ (.bool true))) ?hg ?ho ?hn ?hr ?_; (case ho => rfl); (case hg => rfl); (case hn => rfl); (case hr => first | (go_simp; done) | (go_simp; rfl)); intro w11 hw; have n0_ : Aside0 (Kd.R k45 45 w11 w.heap.size (fun _ => True) u3 x3_1) := ⟨(by rw [hw]; exact (by exact uR <| Kd.R_mono (Kd.R_far (p := ⟨gb297, 4, none⟩) (Kd.R_far (p := ⟨gb297, 3, none⟩) (Kd.R_far (p := ⟨gb297, 2, none⟩) (Kd.R_far (p := ⟨gb297, 1, none⟩) (Kd.R_far (p := ⟨gb297, 0, none⟩) (Kd.R_types HO_3.out BK297.out (by decide)) (fun _ hk => hk.2) (.int .i64 ((rd_T48 l0 x8_1).f0.f0))) (fun _ hk => hk.2) (.string ((rd_T48 l0 x8_1).f0.f1))) (fun _ hk => hk.2) (.int .i64 ((rd_T48 l0 x8_1).f0.f2.f0))) (fun _ hk => hk.2) (.bool ((rd_T48 l0 x8_1).f0.f2.f1))) (fun _ hk => hk.2) (.bool true)) (fun _ hk => trivial)))⟩; have n1_ : Aside0 (w11.heap[gb297]? = some (.cells #[.int .i64 ((rd_T48 l0 x8_1).f0.f0), .string ((rd_T48 l0 x8_1).f0.f1), .int .i64 ((rd_T48 l0 x8_1).f0.f2.f0), .bool ((rd_T48 l0 x8_1).f0.f2.f1), .bool true] 48 (0, 0))) := ⟨(by rw [hw]; exact (by (with_reducible repeat (first | refine blk_drewN ?_ _ | refine blk_drew ?_ | refine blk_alloc ?_ _)); refine blk_put (cs := #[.int .i64 ((rd_T48 l0 x8_1).f0.f0), .string ((rd_T48 l0 x8_1).f0.f1), .int .i64 ((rd_T48 l0 x8_1).f0.f2.f0), .bool ((rd_T48 l0 x8_1).f0.f2.f1), .bool false]) ?_ 4 _ rfl; (with_reducible repeat (first | refine blk_drewN ?_ _ | refine blk_drew ?_ | refine blk_alloc ?_ _)); refine blk_put (cs := #[.int .i64 ((rd_T48 l0 x8_1).f0.f0), .string ((rd_T48 l0 x8_1).f0.f1), .int .i64 ((rd_T48 l0 x8_1).f0.f2.f0), .bool false, .bool false]) ?_ 3 _ rfl; (with_reducible repeat (first | refine blk_drewN ?_ _ | refine blk_drew ?_ | refine blk_alloc ?_ _)); refine blk_put (cs := #[.int .i64 ((rd_T48 l0 x8_1).f0.f0), .string ((rd_T48 l0 x8_1).f0.f1), .int .i64 0, .bool false, .bool false]) ?_ 2 _ rfl; (with_reducible repeat (first | refine blk_drewN ?_ _ | refine blk_drew ?_ | refine blk_alloc ?_ _)); refine blk_put (cs := #[.int .i64 ((rd_T48 l0 x8_1).f0.f0), .string (⟨#[]⟩ : ByteArray), .int .i64 0, .bool false, .bool false]) ?_ 1 _ rfl; (with_reducible repeat (first | refine blk_drewN ?_ _ | refine blk_drew ?_ | refine blk_alloc ?_ _)); refine blk_put (cs := #[.int .i64 0, .string (⟨#[]⟩ : ByteArray), .int .i64 0, .bool false, .bool false]) ?_ 0 _ rfl; exact uB <| BK297.out))⟩; have n2_ : Aside0 (Below w.heap.size w w11) := ⟨(by rw [hw]; exact bl)⟩; clear hw; clear HO_3; clear BK297; clear HB; have HO_3 := n0_; have BK297 := n1_; have HB := n2_; clear n0_ n1_ n2_))
      replace HO_3 := Aside0.mk (Kd.R_drew HO_3.out)
      replace BK297 := Aside0.mk (blk_drew BK297.out)
      replace HB := Aside0.mk (below_drew1 HB.out)
      refine start_ (n := 9) (S := fun w' => w'.cell? ⟨gb297, 0, none⟩ = some (.int .i64 ((rd_T48 l0 x8_1).f0.f0)) ∧ w'.cell? ⟨gb297, 1, none⟩ = some (.string ((rd_T48 l0 x8_1).f0.f1)) ∧ w'.cell? ⟨gb297, 2, none⟩ = some (.int .i64 ((rd_T48 l0 x8_1).f0.f2.f0)) ∧ w'.cell? ⟨gb297, 3, none⟩ = some (.bool ((rd_T48 l0 x8_1).f0.f2.f1)) ∧ w'.cell? ⟨gb297, 4, none⟩ = some (.bool true)) (ds := []) _ (by kernel_rfl) rfl rfl ⟨(blk_cell BK297.out 0).trans rfl, (blk_cell BK297.out 1).trans rfl, (blk_cell BK297.out 2).trans rfl, (blk_cell BK297.out 3).trans rfl, (blk_cell BK297.out 4).trans rfl⟩ (fun hHeld => ?_); refine with_tabW diff_right.tab5 diff_right.bits5 (fun HT_ HW_ => ?_)
      generalize w11.drew = w12 at HO_3 BK297 HB hHeld ⊢
      refine p1 0 (some 12) ?_
      refine t1 1 (some 13) rfl rfl hHeld (Or.inl ⟨by rfl, by rintro w' ⟨s0, s1, s2, s3, s4⟩; go_simp; with_reducible rfl⟩) ?_
      refine p1 2 (some 14) ?_
      refine p1 4 (some 16) ?_
      refine t1 3 (some 15) rfl rfl hHeld (Or.inl ⟨by rfl, by rintro w' ⟨s0, s1, s2, s3, s4⟩; go_simp; with_reducible rfl⟩) ?_
      refine t1 5 (some 17) rfl rfl hHeld (Or.inl ⟨by rfl, by rintro w' ⟨s0, s1, s2, s3, s4⟩; go_simp; with_reducible rfl⟩) ?_
      refine o1 6 (some 18) rfl rfl (fun K hK => ?_)
      refine gS Tryz.func26 #[.agg #[.int .i64 ((rd_T48 l0 x8_1).f0.f0), .string ((rd_T48 l0 x8_1).f0.f1), .int .i64 ((rd_T48 l0 x8_1).f0.f2.f0), .bool ((rd_T48 l0 x8_1).f0.f2.f1)]] ?_
      with_reducible refine (diff_gone.calls ((rd_T48 l0 x8_1).f0.f0) ((rd_T48 l0 x8_1).f0.f1) ((rd_T48 l0 x8_1).f0.f2.f0) ((rd_T48 l0 x8_1).f0.f2.f1) t298 t299 t300 t301 t302 _ A7.out).mono ?_
      rintro e w13 ⟨rfl, hb⟩
      refine ⟨_, rfl, ?_⟩
      replace HO_3 := cR HO_3 hb
      replace BK297 := cB BK297 hb
      replace HB := Aside0.mk (below_step bl hb)
      (try clear hb)
      refine hK.out _ _ ⟨(blk_cell BK297.out 0).trans rfl, (blk_cell BK297.out 1).trans rfl, (blk_cell BK297.out 2).trans rfl, (blk_cell BK297.out 3).trans rfl, (blk_cell BK297.out 4).trans rfl⟩ (fun hHeld => ?_)
      clear hK K
      refine norm_ (a' := ?_) ?_ ?_
      rotate_left
      ·
       show Act.put _ (some 18) _ = _
       simp only [Act.put, List.setIfInBounds_toArray, List.set_cons_zero, List.set_cons_succ, i64_w, i32_w]
       rfl
      refine p1 7 (some 19) ?_
      refine p1 8 (some 20) ?_
      refine done_ (done_of HT_.out (by kernel_rfl)) ?_
      try go_wp2
      go_ret
      exact ⟨re_, bl⟩
     ·
      rw [if_neg c8] at H
      have c8b0 : ((!(((rd_T48 l0 x8_1).f0.f0) == t298) || (!((((rd_T48 l0 x8_1).f0.f1).toList) == t299.toList) || ((!(((rd_T48 l0 x8_1).f0.f2.f0) == t300) || (!(((rd_T48 l0 x8_1).f0.f2.f1) == t301)))))) || (!((true) == t302))) = false := by simpa using c8
      (try simp only [Bool.true_beq, Bool.false_beq, beq_true, beq_false] at c8b0)
      clear c8
      obtain ⟨c14, H⟩ := gd H
      have LMc14 := Aside0.mk c14
      clear c14
      obtain ⟨y303, hy303⟩ : ∃ y_ : List (S45), y_ = (x3_1 ++ [(⟨(rd_T48 l0 x8_1).f0.f0, (rd_T48 l0 x8_1).f0.f1, (⟨(rd_T48 l0 x8_1).f0.f2.f0, (rd_T48 l0 x8_1).f0.f2.f1⟩ : S43)⟩ : S45)]) := ⟨_, rfl⟩
      replace H : (diff_right.l0 k1 y303 l0 (l0.length : Int) (wrap64 (x8_1 + 1))) = some r := by first | (rw [hy303]; with_reducible exact H) | (have H2_ := (Option.bind_some _ _).symm.trans H; rw [hy303]; with_reducible exact H2_) | (have H2_ := (Option.bind_some _ _).symm.trans H; with_reducible exact H2_) | with_reducible exact H | (rw [hy303]; exact H) | exact H
      have Ny303 := Aside0.mk hy303
      clear hy303
      have H' := Aside0.mk H
      clear H
      have p296 : 0 ≤ (x8_1 : Int) := od
      have q296 : x8_1 < (l0.length : Int) := od
      obtain ⟨ad296, e296, hx296_0, hx296_1, hx296_2, hx296_3, hx296_4⟩ := at_T48 HR0.out x8_1 p296 q296
      (try rw [← Nbq5.out] at hx296_3)
      (try rw [← Nbq5.out] at hx296_4)
      cases e296
      replace hx296_0 := kc HB hx296_0
      replace hx296_1 := kc HB hx296_1
      replace hx296_2 := kc HB hx296_2
      replace hx296_3 := kc HB hx296_3
      replace hx296_4 := kc HB hx296_4
      replace p296 := eq_true p296
      replace q296 := eq_true q296
      try go_wp2_with (first | ((with_reducible refine gate_dst (N := 5) rfl ?_); refine bx (N := 5) #[.int .i64 0, .string (⟨#[]⟩ : ByteArray), .int .i64 0, .bool false, .bool false] 48 ?_; intro gb297 hg w15 hbox hb; replace HO_3 := cR HO_3 hb; have BK297 := Aside0.mk (hbox); have GW297 := gw hg (uW HB.out); have GE297 := GW297; replace HB := cW HB hb; clear hb hbox hg; obtain ⟨hcz16_0, hcz16_1, hcz16_2, hcz16_3, hcz16_4, hfz16_0, hfz16_1, hfz16_2, hfz16_3, hfz16_4⟩ := z5 BK297) | ((with_reducible refine gate_store (t := 48) (p := 5) rfl ?_); refine store_event (t := 48) (p := 5) (v := ?vo_w17) (w1 := (((((w15.setCell ⟨gb297, 0, none⟩ (.int .i64 ((rd_T48 l0 x8_1).f0.f0))).setCell ⟨gb297, 1, none⟩ (.string ((rd_T48 l0 x8_1).f0.f1))).setCell ⟨gb297, 2, none⟩ (.int .i64 ((rd_T48 l0 x8_1).f0.f2.f0))).setCell ⟨gb297, 3, none⟩ (.bool ((rd_T48 l0 x8_1).f0.f2.f1))).setCell ⟨gb297, 4, none⟩ (.bool true))) ?hg ?ho ?hn ?hr ?_; (case ho => rfl); (case hg => rfl); (case hn => rfl); (case hr => first | (go_simp; done) | (go_simp; rfl)); intro w17 hw; have n0_ : Aside0 (Kd.R k45 45 w17 w.heap.size (fun _ => True) u3 x3_1) := ⟨(by rw [hw]; exact (by exact uR <| Kd.R_mono (Kd.R_far (p := ⟨gb297, 4, none⟩) (Kd.R_far (p := ⟨gb297, 3, none⟩) (Kd.R_far (p := ⟨gb297, 2, none⟩) (Kd.R_far (p := ⟨gb297, 1, none⟩) (Kd.R_far (p := ⟨gb297, 0, none⟩) (Kd.R_types HO_3.out BK297.out (by decide)) (fun _ hk => hk.2) (.int .i64 ((rd_T48 l0 x8_1).f0.f0))) (fun _ hk => hk.2) (.string ((rd_T48 l0 x8_1).f0.f1))) (fun _ hk => hk.2) (.int .i64 ((rd_T48 l0 x8_1).f0.f2.f0))) (fun _ hk => hk.2) (.bool ((rd_T48 l0 x8_1).f0.f2.f1))) (fun _ hk => hk.2) (.bool true)) (fun _ hk => trivial)))⟩; have n1_ : Aside0 (w17.heap[gb297]? = some (.cells #[.int .i64 ((rd_T48 l0 x8_1).f0.f0), .string ((rd_T48 l0 x8_1).f0.f1), .int .i64 ((rd_T48 l0 x8_1).f0.f2.f0), .bool ((rd_T48 l0 x8_1).f0.f2.f1), .bool true] 48 (0, 0))) := ⟨(by rw [hw]; exact (by (with_reducible repeat (first | refine blk_drewN ?_ _ | refine blk_drew ?_ | refine blk_alloc ?_ _)); refine blk_put (cs := #[.int .i64 ((rd_T48 l0 x8_1).f0.f0), .string ((rd_T48 l0 x8_1).f0.f1), .int .i64 ((rd_T48 l0 x8_1).f0.f2.f0), .bool ((rd_T48 l0 x8_1).f0.f2.f1), .bool false]) ?_ 4 _ rfl; (with_reducible repeat (first | refine blk_drewN ?_ _ | refine blk_drew ?_ | refine blk_alloc ?_ _)); refine blk_put (cs := #[.int .i64 ((rd_T48 l0 x8_1).f0.f0), .string ((rd_T48 l0 x8_1).f0.f1), .int .i64 ((rd_T48 l0 x8_1).f0.f2.f0), .bool false, .bool false]) ?_ 3 _ rfl; (with_reducible repeat (first | refine blk_drewN ?_ _ | refine blk_drew ?_ | refine blk_alloc ?_ _)); refine blk_put (cs := #[.int .i64 ((rd_T48 l0 x8_1).f0.f0), .string ((rd_T48 l0 x8_1).f0.f1), .int .i64 0, .bool false, .bool false]) ?_ 2 _ rfl; (with_reducible repeat (first | refine blk_drewN ?_ _ | refine blk_drew ?_ | refine blk_alloc ?_ _)); refine blk_put (cs := #[.int .i64 ((rd_T48 l0 x8_1).f0.f0), .string (⟨#[]⟩ : ByteArray), .int .i64 0, .bool false, .bool false]) ?_ 1 _ rfl; (with_reducible repeat (first | refine blk_drewN ?_ _ | refine blk_drew ?_ | refine blk_alloc ?_ _)); refine blk_put (cs := #[.int .i64 0, .string (⟨#[]⟩ : ByteArray), .int .i64 0, .bool false, .bool false]) ?_ 0 _ rfl; exact uB <| BK297.out))⟩; have n2_ : Aside0 (Below w.heap.size w w17) := ⟨(by rw [hw]; exact bl)⟩; clear hw; clear HO_3; clear BK297; clear HB; have HO_3 := n0_; have BK297 := n1_; have HB := n2_; clear n0_ n1_ n2_))
      replace HO_3 := Aside0.mk (Kd.R_drew HO_3.out)
      replace BK297 := Aside0.mk (blk_drew BK297.out)
      replace HB := Aside0.mk (below_drew1 HB.out)
      refine start_ (n := 9) (S := fun w' => w'.cell? ⟨gb297, 0, none⟩ = some (.int .i64 ((rd_T48 l0 x8_1).f0.f0)) ∧ w'.cell? ⟨gb297, 1, none⟩ = some (.string ((rd_T48 l0 x8_1).f0.f1)) ∧ w'.cell? ⟨gb297, 2, none⟩ = some (.int .i64 ((rd_T48 l0 x8_1).f0.f2.f0)) ∧ w'.cell? ⟨gb297, 3, none⟩ = some (.bool ((rd_T48 l0 x8_1).f0.f2.f1)) ∧ w'.cell? ⟨gb297, 4, none⟩ = some (.bool true)) (ds := []) _ (by kernel_rfl) rfl rfl ⟨(blk_cell BK297.out 0).trans rfl, (blk_cell BK297.out 1).trans rfl, (blk_cell BK297.out 2).trans rfl, (blk_cell BK297.out 3).trans rfl, (blk_cell BK297.out 4).trans rfl⟩ (fun hHeld => ?_); refine with_tabW diff_right.tab5 diff_right.bits5 (fun HT_ HW_ => ?_)
      generalize w17.drew = w18 at HO_3 BK297 HB hHeld ⊢
      refine p1 0 (some 12) ?_
      refine t1 1 (some 13) rfl rfl hHeld (Or.inl ⟨by rfl, by rintro w' ⟨s0, s1, s2, s3, s4⟩; go_simp; with_reducible rfl⟩) ?_
      refine p1 2 (some 14) ?_
      refine p1 4 (some 16) ?_
      refine t1 3 (some 15) rfl rfl hHeld (Or.inl ⟨by rfl, by rintro w' ⟨s0, s1, s2, s3, s4⟩; go_simp; with_reducible rfl⟩) ?_
      refine t1 5 (some 17) rfl rfl hHeld (Or.inl ⟨by rfl, by rintro w' ⟨s0, s1, s2, s3, s4⟩; go_simp; with_reducible rfl⟩) ?_
      refine o1 6 (some 18) rfl rfl (fun K hK => ?_)
      refine gS Tryz.func26 #[.agg #[.int .i64 ((rd_T48 l0 x8_1).f0.f0), .string ((rd_T48 l0 x8_1).f0.f1), .int .i64 ((rd_T48 l0 x8_1).f0.f2.f0), .bool ((rd_T48 l0 x8_1).f0.f2.f1)]] ?_
      with_reducible refine (diff_gone.calls ((rd_T48 l0 x8_1).f0.f0) ((rd_T48 l0 x8_1).f0.f1) ((rd_T48 l0 x8_1).f0.f2.f0) ((rd_T48 l0 x8_1).f0.f2.f1) t298 t299 t300 t301 t302 _ A7.out).mono ?_
      rintro e w19 ⟨rfl, hb⟩
      refine ⟨_, rfl, ?_⟩
      replace HO_3 := cR HO_3 hb
      replace BK297 := cB BK297 hb
      replace HB := Aside0.mk (below_step bl hb)
      (try clear hb)
      refine hK.out _ _ ⟨(blk_cell BK297.out 0).trans rfl, (blk_cell BK297.out 1).trans rfl, (blk_cell BK297.out 2).trans rfl, (blk_cell BK297.out 3).trans rfl, (blk_cell BK297.out 4).trans rfl⟩ (fun hHeld => ?_)
      clear hK K
      refine norm_ (a' := ?_) ?_ ?_
      rotate_left
      ·
       show Act.put _ (some 18) _ = _
       simp only [Act.put, List.setIfInBounds_toArray, List.set_cons_zero, List.set_cons_succ, i64_w, i32_w]
       rfl
      refine p1 7 (some 19) ?_
      refine p1 8 (some 20) ?_
      refine done_ (done_of HT_.out (by kernel_rfl)) ?_
      have hcz20_0 : w19.cell? ⟨gb297, 0, none⟩ = some (.int .i64 ((rd_T48 l0 x8_1).f0.f0)) := (blk_cell BK297.out 0).trans rfl
      have hcz20_1 : w19.cell? ⟨gb297, 1, none⟩ = some (.string ((rd_T48 l0 x8_1).f0.f1)) := (blk_cell BK297.out 1).trans rfl
      have hcz20_2 : w19.cell? ⟨gb297, 2, none⟩ = some (.int .i64 ((rd_T48 l0 x8_1).f0.f2.f0)) := (blk_cell BK297.out 2).trans rfl
      have hcz20_3 : w19.cell? ⟨gb297, 3, none⟩ = some (.bool ((rd_T48 l0 x8_1).f0.f2.f1)) := (blk_cell BK297.out 3).trans rfl
      have hcz20_4 : w19.cell? ⟨gb297, 4, none⟩ = some (.bool true) := (blk_cell BK297.out 4).trans (by first | rfl | (rw [← Nbq5.out]; rfl))
      have hfz20_0 := blk_frozen BK297.out 0
      have hfz20_1 := blk_frozen BK297.out 1
      have hfz20_2 := blk_frozen BK297.out 2
      have hfz20_3 := blk_frozen BK297.out 3
      have hfz20_4 := blk_frozen BK297.out 4
      try go_wp2_with (first | ((with_reducible refine gate_builtin (b := .append) (xs := #[.tmp 21, .tmp 24]) rfl ?_); at_builtin; refine Kd.R_append k45 (w0 := w) w.heap.size rfl (.tmp 21) (.tmp 24) 22 45 (.agg #[(.int .i64 0), (.string ⟨#[]⟩), (.int .i64 0), (.bool false)]) 40 rfl Tryz.underlying22 info45 rfl (by decide) (by omega) u3 x3_1 (⟨(rd_T48 l0 x8_1).f0.f0, (rd_T48 l0 x8_1).f0.f1, (⟨(rd_T48 l0 x8_1).f0.f2.f0, (rd_T48 l0 x8_1).f0.f2.f1⟩ : S43)⟩ : S45) [.int .i64 ((rd_T48 l0 x8_1).f0.f0), .string ((rd_T48 l0 x8_1).f0.f1), .int .i64 ((rd_T48 l0 x8_1).f0.f2.f0), .bool ((rd_T48 l0 x8_1).f0.f2.f1)] (fun _ => True) (fun _ => False) rfl rfl ?aP (fun _ hk => hk.elim) ?aF ?aO ?aB ?aS ?aL ?_; (case aP => exact k45_mkM _ _ _ (⟨(rd_T48 l0 x8_1).f0.f0, (rd_T48 l0 x8_1).f0.f1, (⟨(rd_T48 l0 x8_1).f0.f2.f0, (rd_T48 l0 x8_1).f0.f2.f1⟩ : S43)⟩ : S45)); (case aB => exact bl); (case aF => exact (fun _ _ => trivial)); (case aO => exact (uR HO_3.out)); (case aS => exact (below_size bl)); (case aL => have := LMc14.out; omega); intro v304 w21 ho hb hg hat; rw [← Ny303.out] at ho; replace BK297 := Aside0.mk (blk_grown (g := gb297) (o := .cells #[.int .i64 ((rd_T48 l0 x8_1).f0.f0), .string ((rd_T48 l0 x8_1).f0.f1), .int .i64 ((rd_T48 l0 x8_1).f0.f2.f0), .bool ((rd_T48 l0 x8_1).f0.f2.f1), .bool true] 48 (0, 0)) (uB BK297.out) hg (Kd.R_ne HO_3.out BK297.out (by decide))); replace HB := Aside0.mk (hb); have HO305 := Aside0.mk (ho); clear HO_3; clear ho hb hg hat))
      go_roundg k1
      case measure => have := HK1.out; omega
      case rel => exact ⟨(y303), (wrap64 (x8_1 + 1)), rs_, (by first | exact H' | (rw [← Nbq5.out]; exact H')), ⟨by have := HK1.out; omega⟩, ⟨uR HO305.out⟩, ⟨bl⟩⟩
    ·
     replace c6 := Bool.eq_false_iff.mpr c6
     subst c6
     rw [if_neg (show ¬ (false = true) by decide)] at H
     obtain ⟨c22, H⟩ := gd H
     have LMc22 := Aside0.mk c22
     clear c22
     obtain ⟨y306, hy306⟩ : ∃ y_ : List (S45), y_ = (x3_1 ++ [(⟨(rd_T48 l0 x8_1).f0.f0, (rd_T48 l0 x8_1).f0.f1, (⟨(rd_T48 l0 x8_1).f0.f2.f0, (rd_T48 l0 x8_1).f0.f2.f1⟩ : S43)⟩ : S45)]) := ⟨_, rfl⟩
     replace H : (diff_right.l0 k1 y306 l0 (l0.length : Int) (wrap64 (x8_1 + 1))) = some r := by first | (rw [hy306]; with_reducible exact H) | (have H2_ := (Option.bind_some _ _).symm.trans H; rw [hy306]; with_reducible exact H2_) | (have H2_ := (Option.bind_some _ _).symm.trans H; with_reducible exact H2_) | with_reducible exact H | (rw [hy306]; exact H) | exact H
     have Ny306 := Aside0.mk hy306
     clear hy306
     have H' := Aside0.mk H
     clear H
     have p296 : 0 ≤ (x8_1 : Int) := od
     have q296 : x8_1 < (l0.length : Int) := od
     obtain ⟨ad296, e296, hx296_0, hx296_1, hx296_2, hx296_3, hx296_4⟩ := at_T48 HR0.out x8_1 p296 q296
     (try rw [← Nbq5.out] at hx296_3)
     (try rw [← Nbq5.out] at hx296_4)
     cases e296
     replace hx296_0 := kc HB hx296_0
     replace hx296_1 := kc HB hx296_1
     replace hx296_2 := kc HB hx296_2
     replace hx296_3 := kc HB hx296_3
     replace hx296_4 := kc HB hx296_4
     replace p296 := eq_true p296
     replace q296 := eq_true q296
     try go_wp2_with (first | ((with_reducible refine gate_dst (N := 5) rfl ?_); refine bx (N := 5) #[.int .i64 0, .string (⟨#[]⟩ : ByteArray), .int .i64 0, .bool false, .bool false] 48 ?_; intro gb297 hg w23 hbox hb; replace HO_3 := cR HO_3 hb; have BK297 := Aside0.mk (hbox); have GW297 := gw hg (uW HB.out); have GE297 := GW297; replace HB := cW HB hb; clear hb hbox hg; obtain ⟨hcz24_0, hcz24_1, hcz24_2, hcz24_3, hcz24_4, hfz24_0, hfz24_1, hfz24_2, hfz24_3, hfz24_4⟩ := z5 BK297) | ((with_reducible refine gate_store (t := 48) (p := 5) rfl ?_); refine store_event (t := 48) (p := 5) (v := ?vo_w25) (w1 := (((((w23.setCell ⟨gb297, 0, none⟩ (.int .i64 ((rd_T48 l0 x8_1).f0.f0))).setCell ⟨gb297, 1, none⟩ (.string ((rd_T48 l0 x8_1).f0.f1))).setCell ⟨gb297, 2, none⟩ (.int .i64 ((rd_T48 l0 x8_1).f0.f2.f0))).setCell ⟨gb297, 3, none⟩ (.bool ((rd_T48 l0 x8_1).f0.f2.f1))).setCell ⟨gb297, 4, none⟩ (.bool false))) ?hg ?ho ?hn ?hr ?_; (case ho => rfl); (case hg => rfl); (case hn => rfl); (case hr => first | (go_simp; done) | (go_simp; rfl)); intro w25 hw; have n0_ : Aside0 (Kd.R k45 45 w25 w.heap.size (fun _ => True) u3 x3_1) := ⟨(by rw [hw]; exact (by exact uR <| Kd.R_mono (Kd.R_far (p := ⟨gb297, 4, none⟩) (Kd.R_far (p := ⟨gb297, 3, none⟩) (Kd.R_far (p := ⟨gb297, 2, none⟩) (Kd.R_far (p := ⟨gb297, 1, none⟩) (Kd.R_far (p := ⟨gb297, 0, none⟩) (Kd.R_types HO_3.out BK297.out (by decide)) (fun _ hk => hk.2) (.int .i64 ((rd_T48 l0 x8_1).f0.f0))) (fun _ hk => hk.2) (.string ((rd_T48 l0 x8_1).f0.f1))) (fun _ hk => hk.2) (.int .i64 ((rd_T48 l0 x8_1).f0.f2.f0))) (fun _ hk => hk.2) (.bool ((rd_T48 l0 x8_1).f0.f2.f1))) (fun _ hk => hk.2) (.bool false)) (fun _ hk => trivial)))⟩; have n1_ : Aside0 (w25.heap[gb297]? = some (.cells #[.int .i64 ((rd_T48 l0 x8_1).f0.f0), .string ((rd_T48 l0 x8_1).f0.f1), .int .i64 ((rd_T48 l0 x8_1).f0.f2.f0), .bool ((rd_T48 l0 x8_1).f0.f2.f1), .bool false] 48 (0, 0))) := ⟨(by rw [hw]; exact (by (with_reducible repeat (first | refine blk_drewN ?_ _ | refine blk_drew ?_ | refine blk_alloc ?_ _)); refine blk_put (cs := #[.int .i64 ((rd_T48 l0 x8_1).f0.f0), .string ((rd_T48 l0 x8_1).f0.f1), .int .i64 ((rd_T48 l0 x8_1).f0.f2.f0), .bool ((rd_T48 l0 x8_1).f0.f2.f1), .bool false]) ?_ 4 _ rfl; (with_reducible repeat (first | refine blk_drewN ?_ _ | refine blk_drew ?_ | refine blk_alloc ?_ _)); refine blk_put (cs := #[.int .i64 ((rd_T48 l0 x8_1).f0.f0), .string ((rd_T48 l0 x8_1).f0.f1), .int .i64 ((rd_T48 l0 x8_1).f0.f2.f0), .bool false, .bool false]) ?_ 3 _ rfl; (with_reducible repeat (first | refine blk_drewN ?_ _ | refine blk_drew ?_ | refine blk_alloc ?_ _)); refine blk_put (cs := #[.int .i64 ((rd_T48 l0 x8_1).f0.f0), .string ((rd_T48 l0 x8_1).f0.f1), .int .i64 0, .bool false, .bool false]) ?_ 2 _ rfl; (with_reducible repeat (first | refine blk_drewN ?_ _ | refine blk_drew ?_ | refine blk_alloc ?_ _)); refine blk_put (cs := #[.int .i64 ((rd_T48 l0 x8_1).f0.f0), .string (⟨#[]⟩ : ByteArray), .int .i64 0, .bool false, .bool false]) ?_ 1 _ rfl; (with_reducible repeat (first | refine blk_drewN ?_ _ | refine blk_drew ?_ | refine blk_alloc ?_ _)); refine blk_put (cs := #[.int .i64 0, .string (⟨#[]⟩ : ByteArray), .int .i64 0, .bool false, .bool false]) ?_ 0 _ rfl; exact uB <| BK297.out))⟩; have n2_ : Aside0 (Below w.heap.size w w25) := ⟨(by rw [hw]; exact bl)⟩; clear hw; clear HO_3; clear BK297; clear HB; have HO_3 := n0_; have BK297 := n1_; have HB := n2_; clear n0_ n1_ n2_))
     replace HO_3 := Aside0.mk (Kd.R_drew HO_3.out)
     replace BK297 := Aside0.mk (blk_drew BK297.out)
     replace HB := Aside0.mk (below_drew1 HB.out)
     refine start_ (n := 9) (S := fun w' => w'.cell? ⟨gb297, 0, none⟩ = some (.int .i64 ((rd_T48 l0 x8_1).f0.f0)) ∧ w'.cell? ⟨gb297, 1, none⟩ = some (.string ((rd_T48 l0 x8_1).f0.f1)) ∧ w'.cell? ⟨gb297, 2, none⟩ = some (.int .i64 ((rd_T48 l0 x8_1).f0.f2.f0)) ∧ w'.cell? ⟨gb297, 3, none⟩ = some (.bool ((rd_T48 l0 x8_1).f0.f2.f1)) ∧ w'.cell? ⟨gb297, 4, none⟩ = some (.bool false)) (ds := []) _ (by kernel_rfl) rfl rfl ⟨(blk_cell BK297.out 0).trans rfl, (blk_cell BK297.out 1).trans rfl, (blk_cell BK297.out 2).trans rfl, (blk_cell BK297.out 3).trans rfl, (blk_cell BK297.out 4).trans rfl⟩ (fun hHeld => ?_); refine with_tabW diff_right.tab5 diff_right.bits5 (fun HT_ HW_ => ?_)
     generalize w25.drew = w26 at HO_3 BK297 HB hHeld ⊢
     refine p1 0 (some 12) ?_
     refine t1 1 (some 13) rfl rfl hHeld (Or.inl ⟨by rfl, by rintro w' ⟨s0, s1, s2, s3, s4⟩; go_simp; with_reducible rfl⟩) ?_
     refine p1 2 (some 14) ?_
     refine p2 3 (some 15) ?_
     refine p2 4 (some 16) ?_
     refine p2 5 (some 17) ?_
     refine p2 6 (some 18) ?_
     refine p2 7 (some 19) ?_
     refine p1 8 (some 20) ?_
     refine done_ (done_of HT_.out (by kernel_rfl)) ?_
     have hcz27_0 : w26.cell? ⟨gb297, 0, none⟩ = some (.int .i64 ((rd_T48 l0 x8_1).f0.f0)) := (blk_cell BK297.out 0).trans rfl
     have hcz27_1 : w26.cell? ⟨gb297, 1, none⟩ = some (.string ((rd_T48 l0 x8_1).f0.f1)) := (blk_cell BK297.out 1).trans rfl
     have hcz27_2 : w26.cell? ⟨gb297, 2, none⟩ = some (.int .i64 ((rd_T48 l0 x8_1).f0.f2.f0)) := (blk_cell BK297.out 2).trans rfl
     have hcz27_3 : w26.cell? ⟨gb297, 3, none⟩ = some (.bool ((rd_T48 l0 x8_1).f0.f2.f1)) := (blk_cell BK297.out 3).trans rfl
     have hcz27_4 : w26.cell? ⟨gb297, 4, none⟩ = some (.bool false) := (blk_cell BK297.out 4).trans (by first | rfl | (rw [← Nbq5.out]; rfl))
     have hfz27_0 := blk_frozen BK297.out 0
     have hfz27_1 := blk_frozen BK297.out 1
     have hfz27_2 := blk_frozen BK297.out 2
     have hfz27_3 := blk_frozen BK297.out 3
     have hfz27_4 := blk_frozen BK297.out 4
     try go_wp2_with (first | ((with_reducible refine gate_builtin (b := .append) (xs := #[.tmp 21, .tmp 24]) rfl ?_); at_builtin; refine Kd.R_append k45 (w0 := w) w.heap.size rfl (.tmp 21) (.tmp 24) 22 45 (.agg #[(.int .i64 0), (.string ⟨#[]⟩), (.int .i64 0), (.bool false)]) 40 rfl Tryz.underlying22 info45 rfl (by decide) (by omega) u3 x3_1 (⟨(rd_T48 l0 x8_1).f0.f0, (rd_T48 l0 x8_1).f0.f1, (⟨(rd_T48 l0 x8_1).f0.f2.f0, (rd_T48 l0 x8_1).f0.f2.f1⟩ : S43)⟩ : S45) [.int .i64 ((rd_T48 l0 x8_1).f0.f0), .string ((rd_T48 l0 x8_1).f0.f1), .int .i64 ((rd_T48 l0 x8_1).f0.f2.f0), .bool ((rd_T48 l0 x8_1).f0.f2.f1)] (fun _ => True) (fun _ => False) rfl rfl ?aP (fun _ hk => hk.elim) ?aF ?aO ?aB ?aS ?aL ?_; (case aP => exact k45_mkM _ _ _ (⟨(rd_T48 l0 x8_1).f0.f0, (rd_T48 l0 x8_1).f0.f1, (⟨(rd_T48 l0 x8_1).f0.f2.f0, (rd_T48 l0 x8_1).f0.f2.f1⟩ : S43)⟩ : S45)); (case aB => exact bl); (case aF => exact (fun _ _ => trivial)); (case aO => exact (uR HO_3.out)); (case aS => exact (below_size bl)); (case aL => have := LMc22.out; omega); intro v307 w28 ho hb hg hat; rw [← Ny306.out] at ho; replace BK297 := Aside0.mk (blk_grown (g := gb297) (o := .cells #[.int .i64 ((rd_T48 l0 x8_1).f0.f0), .string ((rd_T48 l0 x8_1).f0.f1), .int .i64 ((rd_T48 l0 x8_1).f0.f2.f0), .bool ((rd_T48 l0 x8_1).f0.f2.f1), .bool false] 48 (0, 0)) (uB BK297.out) hg (Kd.R_ne HO_3.out BK297.out (by decide))); replace HB := Aside0.mk (hb); have HO308 := Aside0.mk (ho); clear HO_3; clear ho hb hg hat))
     go_roundg k1
     case measure => have := HK1.out; omega
     case rel => exact ⟨(y306), (wrap64 (x8_1 + 1)), rs_, (by first | exact H' | (rw [← Nbq5.out]; exact H')), ⟨by have := HK1.out; omega⟩, ⟨uR HO308.out⟩, ⟨bl⟩⟩
   ·
    rw [if_neg c2] at H
    have c2b0 : decide (x8_1 < (l0.length : Int)) = false := decide_eq_false c2
    clear c2
    obtain ⟨t309, A29, H⟩ := bs H
    try dsimp only at H
    obtain rfl := Option.some.inj H
    obtain ⟨Ao30, co30, eo30⟩ := Kd.R_slice HO_3.out
    subst eo30
    go_wp2_with (first | (refine gL (some 28) rfl Tryz.func24 #[.slice Ao30 x3_1.length co30] ?_; (with_reducible refine (row_Right.calls (hL := ld) k1 _ _ x3_1 t309 _ ?side1 ?side2 A29.out).mono ?_); (case side1 => exact uC <| (Kd.R_reads' HO_3.out).2.2); (case side2 => exact (Kd.R_reads' HO_3.out).2.1); rintro e w31 ⟨rfl, hb⟩; refine ⟨_, rfl, ?_⟩; replace HO_3 := cR HO_3 hb; replace HB := cW HB hb; (try clear hb)))
    go_ret
    exact ⟨re_, uW HB.out⟩
attribute [local go_sem high] eqA48
def api_Change.l0 : Nat → List (S48) → List (S48) → Int → Int → Option (Bool)
 | 0, _, _, _, _ => none
 | k + 1, x0, x1, x12, x13 => if x13 < x12 then (if 0 ≤ x13 then (if x13 < (x0.length : Int) then (if x13 < (x1.length : Int) then (if ((!(((rd_T48 x0 x13).f0.f0) == ((rd_T48 x1 x13).f0.f0)) || (!((((rd_T48 x0 x13).f0.f1).toList) == (((rd_T48 x1 x13).f0.f1).toList)) || ((!(((rd_T48 x0 x13).f0.f2.f0) == ((rd_T48 x1 x13).f0.f2.f0)) || (!(((rd_T48 x0 x13).f0.f2.f1) == ((rd_T48 x1 x13).f0.f2.f1))))))) || (!(((rd_T48 x0 x13).f1) == ((rd_T48 x1 x13).f1)))) = true then (some false) else (api_Change.l0 k x0 x1 x12 (wrap64 (x13 + 1)))) else (none)) else (none)) else (none)) else (some true)
def api_Change.f (k : Nat) (l0 : List (S48)) (l1 : List (S48)) : Option (Bool) := if (l0.length : Int) = (l1.length : Int) then (api_Change.l0 k l0 l1 (l0.length : Int) 0) else (some false)
theorem api_Change.mono_l : ∀ k, (∀ y0 y1 y2 y3, LeC (api_Change.l0 k y0 y1 y2 y3) (api_Change.l0 (k + 1) y0 y1 y2 y3))
 | 0 => fun _ _ _ _ => ⟨fun r h => by simp [api_Change.l0] at h⟩
 | k + 1 => by have ih0 := api_Change.mono_l k; exact fun _ _ _ _ => by unfold api_Change.l0; exact lm
theorem api_Change.mono : ∀ a0 a1 k, LeO (api_Change.f k a0 a1) (api_Change.f (k + 1) a0 a1) := by
 intro a0 a1 k
 have ih0 := api_Change.mono_l k
 unfold api_Change.f
 exact lo
instance api_Change.mI {a0 a1 k} : LeC (api_Change.f k a0 a1) (api_Change.f (k + 1) a0 a1) := ⟨api_Change.mono _ _ _⟩
theorem api_Change.calls (k : Nat) (A0 : Option Addr) (c0 : Nat) (l0 : List (S48)) (A1 : Option Addr) (c1 : Nat) (l1 : List (S48)) (r : Bool) (w : World) (hr0 : Kd.C k48 w A0 l0.length l0) (hc0 : l0.length ≤ c0) (hr1 : Kd.C k48 w A1 l1.length l1) (hc1 : l1.length ≤ c1) (h : api_Change.f k l0 l1 = some r) :
 Calls Tryz.prog 38 #[.slice A0 l0.length c0, .slice A1 l1.length c1] w fun e w' => e = .returned (.bool r) ∧ Drawn0 w w' := by
 have hu48 := Tryz.underlying48
 have HR0 := Aside0.mk hr0
 have HC0 := Aside0.mk hc0
 clear hr0 hc0
 have HR1 := Aside0.mk hr1
 have HC1 := Aside0.mk hc1
 clear hr1 hc1
 have H : (if (l0.length : Int) = (l1.length : Int) then (api_Change.l0 k l0 l1 (l0.length : Int) 0) else (some false)) = some r := h
 clear h
 by_cases c3 : (l0.length : Int) = (l1.length : Int)
 ·
  rw [if_pos c3] at H
  have c3b0 : ((l0.length : Int) == (l1.length : Int)) = true := beq_iff_eq.mpr c3
  have c3b1 : ((l0.length : Int) != (l1.length : Int)) = false := bne_eq_false_iff_eq.mpr c3
  have c3b2 : (l0.length == l1.length) = true := by first | simpa using c3 | (simp at c3 ⊢; omega)
  clear c3
  have H' := Aside0.mk H
  clear H
  go_enter Tryz.func38, Tryz.ntmps38
  go_wp2
  repeat (go_quiet (fail); try go_wp2)
  go_loopg [13] k (fun kq v13 w' => ∃ (x13_1 : Int), v13 = .int .i64 x13_1 ∧ Aside0 (api_Change.l0 kq l0 l1 (l0.length : Int) x13_1 = some r) ∧ Aside0 (kq ≤ k) ∧ Drawn0 w w')
  case atStart => exact ⟨(0), rs_, H', ⟨Nat.le_refl _⟩, dr_⟩
  case round =>
   clear H'
   try clear c1
   try clear p2
   try clear c3
   try clear c3b0
   try clear c3b1
   try clear c3b2
   obtain ⟨x13_1, rfl, HA, HK1, ⟨m1, rfl⟩⟩ := hrel
   cases gk with
   | zero => exact absurd HA.out (by simp [api_Change.l0])
   | succ k1 =>
    have H := HA.out
    clear HA
    simp only [api_Change.l0] at H
    by_cases c4 : x13_1 < (l0.length : Int)
    ·
     rw [if_pos c4] at H
     have c4b0 : decide (x13_1 < (l0.length : Int)) = true := decide_eq_true c4
     clear c4
     obtain ⟨c5b0, H⟩ := gdd H
     obtain ⟨c6b0, H⟩ := gdd H
     obtain ⟨c7b0, H⟩ := gdd H
     by_cases c8 : ((!(((rd_T48 l0 x13_1).f0.f0) == ((rd_T48 l1 x13_1).f0.f0)) || (!((((rd_T48 l0 x13_1).f0.f1).toList) == (((rd_T48 l1 x13_1).f0.f1).toList)) || ((!(((rd_T48 l0 x13_1).f0.f2.f0) == ((rd_T48 l1 x13_1).f0.f2.f0)) || (!(((rd_T48 l0 x13_1).f0.f2.f1) == ((rd_T48 l1 x13_1).f0.f2.f1))))))) || (!(((rd_T48 l0 x13_1).f1) == ((rd_T48 l1 x13_1).f1)))) = true
     ·
      rw [if_pos c8] at H
      have c8b0 : ((!(((rd_T48 l0 x13_1).f0.f0) == ((rd_T48 l1 x13_1).f0.f0)) || (!((((rd_T48 l0 x13_1).f0.f1).toList) == (((rd_T48 l1 x13_1).f0.f1).toList)) || ((!(((rd_T48 l0 x13_1).f0.f2.f0) == ((rd_T48 l1 x13_1).f0.f2.f0)) || (!(((rd_T48 l0 x13_1).f0.f2.f1) == ((rd_T48 l1 x13_1).f0.f2.f1))))))) || (!(((rd_T48 l0 x13_1).f1) == ((rd_T48 l1 x13_1).f1)))) = true := c8
      clear c8
      obtain rfl := Option.some.inj H
      have p329 : 0 ≤ (x13_1 : Int) := od
      have q329 : x13_1 < (l0.length : Int) := od
      obtain ⟨ad329, e329, hx329_0, hx329_1, hx329_2, hx329_3, hx329_4⟩ := at_T48 HR0.out x13_1 p329 q329
      cases e329
      replace p329 := eq_true p329
      replace q329 := eq_true q329
      have p330 : 0 ≤ (x13_1 : Int) := od
      have q330 : x13_1 < (l1.length : Int) := od
      obtain ⟨ad330, e330, hx330_0, hx330_1, hx330_2, hx330_3, hx330_4⟩ := at_T48 HR1.out x13_1 p330 q330
      cases e330
      replace p330 := eq_true p330
      replace q330 := eq_true q330
      go_wp2
      repeat (go_quiet (fail); try go_wp2)
      go_ret
      exact ⟨rs_, dr_⟩
     ·
      rw [if_neg c8] at H
      have c8b0 : ((!(((rd_T48 l0 x13_1).f0.f0) == ((rd_T48 l1 x13_1).f0.f0)) || (!((((rd_T48 l0 x13_1).f0.f1).toList) == (((rd_T48 l1 x13_1).f0.f1).toList)) || ((!(((rd_T48 l0 x13_1).f0.f2.f0) == ((rd_T48 l1 x13_1).f0.f2.f0)) || (!(((rd_T48 l0 x13_1).f0.f2.f1) == ((rd_T48 l1 x13_1).f0.f2.f1))))))) || (!(((rd_T48 l0 x13_1).f1) == ((rd_T48 l1 x13_1).f1)))) = false := by simpa using c8
      clear c8
      have H' := Aside0.mk H
      clear H
      have p329 : 0 ≤ (x13_1 : Int) := od
      have q329 : x13_1 < (l0.length : Int) := od
      obtain ⟨ad329, e329, hx329_0, hx329_1, hx329_2, hx329_3, hx329_4⟩ := at_T48 HR0.out x13_1 p329 q329
      cases e329
      replace p329 := eq_true p329
      replace q329 := eq_true q329
      have p330 : 0 ≤ (x13_1 : Int) := od
      have q330 : x13_1 < (l1.length : Int) := od
      obtain ⟨ad330, e330, hx330_0, hx330_1, hx330_2, hx330_3, hx330_4⟩ := at_T48 HR1.out x13_1 p330 q330
      cases e330
      replace p330 := eq_true p330
      replace q330 := eq_true q330
      go_wp2
      repeat (go_quiet (fail); try go_wp2)
      go_roundg k1
      case measure => have := HK1.out; omega
      case rel => exact ⟨(wrap64 (x13_1 + 1)), rs_, H', ⟨by have := HK1.out; omega⟩, dr_⟩
    ·
     rw [if_neg c4] at H
     have c4b0 : decide (x13_1 < (l0.length : Int)) = false := decide_eq_false c4
     clear c4
     obtain rfl := Option.some.inj H
     go_wp2
     repeat (go_quiet (fail); try go_wp2)
     go_ret
     exact ⟨rs_, dr_⟩
 ·
  rw [if_neg c3] at H
  have c3b0 : ((l0.length : Int) == (l1.length : Int)) = false := beq_eq_false_iff_ne.mpr c3
  have c3b1 : ((l0.length : Int) != (l1.length : Int)) = true := bne_iff_ne.mpr c3
  have c3b2 : (l0.length == l1.length) = false := by first | simpa using c3 | (simp at c3 ⊢; omega)
  obtain rfl := Option.some.inj H
  go_enter Tryz.func38, Tryz.ntmps38
  go_wp2
  repeat (go_quiet (fail); try go_wp2)
  go_ret
  exact ⟨rs_, dr_⟩
def diff_Same.f (k : Nat) (l0 : List (S48)) (l1 : List (S48)) : Option (Bool) := (api_Change.f k l0 l1).bind fun t331 => (some t331)
theorem diff_Same.mono : ∀ a0 a1 k, LeO (diff_Same.f k a0 a1) (diff_Same.f (k + 1) a0 a1) := by
 intro a0 a1 k
 unfold diff_Same.f
 exact lo
instance diff_Same.mI {a0 a1 k} : LeC (diff_Same.f k a0 a1) (diff_Same.f (k + 1) a0 a1) := ⟨diff_Same.mono _ _ _⟩
theorem diff_Same.calls (k : Nat) (A0 : Option Addr) (c0 : Nat) (l0 : List (S48)) (A1 : Option Addr) (c1 : Nat) (l1 : List (S48)) (r : Bool) (w : World) (hr0 : Kd.C k48 w A0 l0.length l0) (hc0 : l0.length ≤ c0) (hr1 : Kd.C k48 w A1 l1.length l1) (hc1 : l1.length ≤ c1) (h : diff_Same.f k l0 l1 = some r) :
 Calls Tryz.prog 19 #[.slice A0 l0.length c0, .slice A1 l1.length c1] w fun e w' => e = .returned (.bool r) ∧ Drawn0 w w' := by
 have HR0 := Aside0.mk hr0
 have HC0 := Aside0.mk hc0
 clear hr0 hc0
 have HR1 := Aside0.mk hr1
 have HC1 := Aside0.mk hc1
 clear hr1 hc1
 have H : ((api_Change.f k l0 l1).bind fun t331 => (some t331)) = some r := h
 clear h
 obtain ⟨t331, A3, H⟩ := bs H
 try dsimp only at H
 obtain rfl := Option.some.inj H
 go_enter Tryz.func19, Tryz.ntmps19
 go_wp2_with (first | (refine gL (some 7) rfl Tryz.func38 #[.slice A0 l0.length c0, .slice A1 l1.length c1] ?_; (with_reducible refine (api_Change.calls k _ _ l0 _ _ l1 t331 _ ?side1 ?side2 ?side3 ?side4 A3.out).mono ?_); (case side1 => exact uC <| HR0.out); (case side2 => exact HC0.out); (case side3 => exact uC <| HR1.out); (case side4 => exact HC1.out); rintro e w' ⟨rfl, ⟨nd, rfl⟩⟩; refine ⟨_, rfl, ?_⟩))
 go_ret
 exact ⟨rs_, dr_⟩
def stringslite_HasPrefix.f (a0 : ByteArray) (a1 : ByteArray) : Option (Bool) := if (a0.size : Int) ≥ (a1.size : Int) then (if 0 ≤ (a1.size : Int) then (if (a1.size : Int) ≤ (a0.size : Int) then (some ((a0.extract 0 ((a1.size : Int) : Int).toNat).toList == a1.toList)) else (none)) else (none)) else (some false)
theorem stringslite_HasPrefix.calls (a0 : ByteArray) (a1 : ByteArray) (r : Bool) (w : World) (h : stringslite_HasPrefix.f a0 a1 = some r) :
 Calls Tryz.prog 90 #[.string a0, .string a1] w fun e w' => e = .returned (.bool r) ∧ Drawn0 w w' := by
 have H : (if (a0.size : Int) ≥ (a1.size : Int) then (if 0 ≤ (a1.size : Int) then (if (a1.size : Int) ≤ (a0.size : Int) then (some ((a0.extract 0 ((a1.size : Int) : Int).toNat).toList == a1.toList)) else (none)) else (none)) else (some false)) = some r := h
 clear h
 by_cases c3 : (a0.size : Int) ≥ (a1.size : Int)
 ·
  rw [if_pos c3] at H
  have c3b0 : decide ((a1.size : Int) ≤ (a0.size : Int)) = true := decide_eq_true c3
  have c3b1 : decide (a1.size ≤ a0.size) = true := decide_eq_true (Int.ofNat_le.mp c3)
  clear c3
  obtain ⟨c4, H⟩ := gd H
  have c4b0 := eq_true c4
  have c4b1 : decide (0 ≤ (a1.size : Int)) = true := decide_eq_true c4
  clear c4
  obtain ⟨c5, H⟩ := gd H
  have c5b0 := eq_true c5
  have c5b1 : decide ((a1.size : Int) ≤ (a0.size : Int)) = true := decide_eq_true c5
  clear c5
  obtain rfl := Option.some.inj H
  go_enter Tryz.func90, Tryz.ntmps90
  go_wp2
  go_ret
  exact ⟨rs_, dr_⟩
 ·
  rw [if_neg c3] at H
  have c3b0 : decide ((a1.size : Int) ≤ (a0.size : Int)) = false := decide_eq_false c3
  have c3b1 : decide (a1.size ≤ a0.size) = false := decide_eq_false (fun h => c3 (Int.ofNat_le.mpr h))
  clear c3
  obtain rfl := Option.some.inj H
  go_enter Tryz.func90, Tryz.ntmps90
  go_wp2
  go_ret
  exact ⟨rs_, dr_⟩
def stringslite_CutPrefix.f (a0 : ByteArray) (a1 : ByteArray) : Option (ByteArray × Bool) := (stringslite_HasPrefix.f a0 a1).bind fun t332 => (if t332 = true then (if 0 ≤ (a1.size : Int) then (if (a1.size : Int) ≤ (a0.size : Int) then (some (a0.extract ((a1.size : Int) : Int).toNat a0.size, true)) else (none)) else (none)) else (some (a0, false)))
theorem stringslite_CutPrefix.calls (a0 : ByteArray) (a1 : ByteArray) (r1 : ByteArray) (r2 : Bool) (w : World) (h : stringslite_CutPrefix.f a0 a1 = some (r1, r2)) :
 Calls Tryz.prog 75 #[.string a0, .string a1] w fun e w' => e = .returned (.tuple #[.string r1, .bool r2]) ∧ Drawn0 w w' := by
 have H : ((stringslite_HasPrefix.f a0 a1).bind fun t332 => (if t332 = true then (if 0 ≤ (a1.size : Int) then (if (a1.size : Int) ≤ (a0.size : Int) then (some (a0.extract ((a1.size : Int) : Int).toNat a0.size, true)) else (none)) else (none)) else (some (a0, false)))) = some (r1, r2) := h
 clear h
 obtain ⟨t332, A3, H⟩ := bs H
 try dsimp only at H
 by_cases c4 : t332 = true
 ·
  subst c4
  rw [if_pos rfl] at H
  obtain ⟨c5, H⟩ := gd H
  have c5b0 := eq_true c5
  have c5b1 : decide (0 ≤ (a1.size : Int)) = true := decide_eq_true c5
  clear c5
  obtain ⟨c6, H⟩ := gd H
  have c6b0 := eq_true c6
  have c6b1 : decide ((a1.size : Int) ≤ (a0.size : Int)) = true := decide_eq_true c6
  clear c6
  simp only [Option.some.injEq, Prod.mk.injEq] at H
  obtain ⟨rfl, rfl⟩ := H
  go_enter Tryz.func75, Tryz.ntmps75
  go_wp2_with (first | (refine gL (some 8) rfl Tryz.func90 #[.string a0, .string a1] ?_; (with_reducible refine (stringslite_HasPrefix.calls a0 a1 true _ A3.out).mono ?_); rintro e w' ⟨rfl, ⟨nd, rfl⟩⟩; refine ⟨_, rfl, ?_⟩))
  go_ret2
  exact ⟨rs_, dr_⟩
 ·
  replace c4 := Bool.eq_false_iff.mpr c4
  subst c4
  rw [if_neg (show ¬ (false = true) by decide)] at H
  simp only [Option.some.injEq, Prod.mk.injEq] at H
  obtain ⟨rfl, rfl⟩ := H
  go_enter Tryz.func75, Tryz.ntmps75
  go_wp2_with (first | (refine gL (some 8) rfl Tryz.func90 #[.string a0, .string a1] ?_; (with_reducible refine (stringslite_HasPrefix.calls a0 a1 false _ A3.out).mono ?_); rintro e w' ⟨rfl, ⟨nd, rfl⟩⟩; refine ⟨_, rfl, ?_⟩))
  go_ret2
  exact ⟨rs_, dr_⟩
def strings_CutPrefix.f (a0 : ByteArray) (a1 : ByteArray) : Option (ByteArray × Bool) := (stringslite_CutPrefix.f a0 a1).bind fun bt333 => (some (bt333.1, bt333.2))
theorem strings_CutPrefix.calls (a0 : ByteArray) (a1 : ByteArray) (r1 : ByteArray) (r2 : Bool) (w : World) (h : strings_CutPrefix.f a0 a1 = some (r1, r2)) :
 Calls Tryz.prog 57 #[.string a0, .string a1] w fun e w' => e = .returned (.tuple #[.string r1, .bool r2]) ∧ Drawn0 w w' := by
 have H : ((stringslite_CutPrefix.f a0 a1).bind fun bt333 => (some (bt333.1, bt333.2))) = some (r1, r2) := h
 clear h
 obtain ⟨⟨t333, t334⟩, A3, H⟩ := bs H
 try dsimp only at H
 simp only [Option.some.injEq, Prod.mk.injEq] at H
 obtain ⟨rfl, rfl⟩ := H
 go_enter Tryz.func57, Tryz.ntmps57
 go_wp2_with (first | (refine gL (some 8) rfl Tryz.func75 #[.string a0, .string a1] ?_; (with_reducible refine (stringslite_CutPrefix.calls a0 a1 t333 t334 _ A3.out).mono ?_); rintro e w' ⟨rfl, ⟨nd, rfl⟩⟩; refine ⟨_, rfl, ?_⟩))
 go_ret2
 exact ⟨rs_, dr_⟩
def stringslite_TrimPrefix.f (a0 : ByteArray) (a1 : ByteArray) : Option (ByteArray) := (stringslite_HasPrefix.f a0 a1).bind fun t335 => (if t335 = true then (if 0 ≤ (a1.size : Int) then (if (a1.size : Int) ≤ (a0.size : Int) then (some (a0.extract ((a1.size : Int) : Int).toNat a0.size)) else (none)) else (none)) else (some a0))
theorem stringslite_TrimPrefix.calls (a0 : ByteArray) (a1 : ByteArray) (r : ByteArray) (w : World) (h : stringslite_TrimPrefix.f a0 a1 = some r) :
 Calls Tryz.prog 111 #[.string a0, .string a1] w fun e w' => e = .returned (.string r) ∧ Drawn0 w w' := by
 have H : ((stringslite_HasPrefix.f a0 a1).bind fun t335 => (if t335 = true then (if 0 ≤ (a1.size : Int) then (if (a1.size : Int) ≤ (a0.size : Int) then (some (a0.extract ((a1.size : Int) : Int).toNat a0.size)) else (none)) else (none)) else (some a0))) = some r := h
 clear h
 obtain ⟨t335, A3, H⟩ := bs H
 try dsimp only at H
 by_cases c4 : t335 = true
 ·
  subst c4
  rw [if_pos rfl] at H
  obtain ⟨c5, H⟩ := gd H
  have c5b0 := eq_true c5
  have c5b1 : decide (0 ≤ (a1.size : Int)) = true := decide_eq_true c5
  clear c5
  obtain ⟨c6, H⟩ := gd H
  have c6b0 := eq_true c6
  have c6b1 : decide ((a1.size : Int) ≤ (a0.size : Int)) = true := decide_eq_true c6
  clear c6
  obtain rfl := Option.some.inj H
  go_enter Tryz.func111, Tryz.ntmps111
  go_wp2_with (first | (refine gL (some 7) rfl Tryz.func90 #[.string a0, .string a1] ?_; (with_reducible refine (stringslite_HasPrefix.calls a0 a1 true _ A3.out).mono ?_); rintro e w' ⟨rfl, ⟨nd, rfl⟩⟩; refine ⟨_, rfl, ?_⟩))
  go_ret
  exact ⟨rs_, dr_⟩
 ·
  replace c4 := Bool.eq_false_iff.mpr c4
  subst c4
  rw [if_neg (show ¬ (false = true) by decide)] at H
  obtain rfl := Option.some.inj H
  go_enter Tryz.func111, Tryz.ntmps111
  go_wp2_with (first | (refine gL (some 7) rfl Tryz.func90 #[.string a0, .string a1] ?_; (with_reducible refine (stringslite_HasPrefix.calls a0 a1 false _ A3.out).mono ?_); rintro e w' ⟨rfl, ⟨nd, rfl⟩⟩; refine ⟨_, rfl, ?_⟩))
  go_ret
  exact ⟨rs_, dr_⟩
def strings_TrimPrefix.f (a0 : ByteArray) (a1 : ByteArray) : Option (ByteArray) := (stringslite_TrimPrefix.f a0 a1).bind fun t336 => (some t336)
theorem strings_TrimPrefix.calls (a0 : ByteArray) (a1 : ByteArray) (r : ByteArray) (w : World) (h : strings_TrimPrefix.f a0 a1 = some r) :
 Calls Tryz.prog 91 #[.string a0, .string a1] w fun e w' => e = .returned (.string r) ∧ Drawn0 w w' := by
 have H : ((stringslite_TrimPrefix.f a0 a1).bind fun t336 => (some t336)) = some r := h
 clear h
 obtain ⟨t336, A3, H⟩ := bs H
 try dsimp only at H
 obtain rfl := Option.some.inj H
 go_enter Tryz.func91, Tryz.ntmps91
 go_wp2_with (first | (refine gL (some 7) rfl Tryz.func111 #[.string a0, .string a1] ?_; (with_reducible refine (stringslite_TrimPrefix.calls a0 a1 t336 _ A3.out).mono ?_); rintro e w' ⟨rfl, ⟨nd, rfl⟩⟩; refine ⟨_, rfl, ?_⟩))
 go_ret
 exact ⟨rs_, dr_⟩
def sat_digits.f (a0 : ByteArray) : Option (Bool) := if a0.toList = ([] : List UInt8) then (some false) else (if 0 < (a0.size : Int) then (if (bt a0 0) = 48 then (if a0.toList = ([48] : List UInt8) then ((strings_Trim.f a0 (⟨#[48, 49, 50, 51, 52, 53, 54, 55, 56, 57]⟩ : ByteArray)).bind fun t337 => (some (t337.toList == ([] : List UInt8)))) else (some false)) else ((strings_Trim.f a0 (⟨#[48, 49, 50, 51, 52, 53, 54, 55, 56, 57]⟩ : ByteArray)).bind fun t338 => (some (t338.toList == ([] : List UInt8))))) else (none))
theorem sat_digits.calls (a0 : ByteArray) (r : Bool) (w : World) (h : sat_digits.f a0 = some r) :
 Calls Tryz.prog 92 #[.string a0] w fun e w' => e = .returned (.bool r) ∧ Below w.heap.size w w' := by
 have HB := Aside0.mk (Below.refl w.heap.size w)
 have H : (if a0.toList = ([] : List UInt8) then (some false) else (if 0 < (a0.size : Int) then (if (bt a0 0) = 48 then (if a0.toList = ([48] : List UInt8) then ((strings_Trim.f a0 (⟨#[48, 49, 50, 51, 52, 53, 54, 55, 56, 57]⟩ : ByteArray)).bind fun t337 => (some (t337.toList == ([] : List UInt8)))) else (some false)) else ((strings_Trim.f a0 (⟨#[48, 49, 50, 51, 52, 53, 54, 55, 56, 57]⟩ : ByteArray)).bind fun t338 => (some (t338.toList == ([] : List UInt8))))) else (none))) = some r := h
 clear h
 by_cases c2 : a0.toList = ([] : List UInt8)
 ·
  rw [if_pos c2] at H
  have c2b0 : (a0.toList == ([] : List UInt8)) = true := beq_iff_eq.mpr c2
  have c2b1 : (a0.toList != ([] : List UInt8)) = false := bne_eq_false_iff_eq.mpr c2
  clear c2
  obtain rfl := Option.some.inj H
  go_enter Tryz.func92, Tryz.ntmps92
  go_wp2
  go_ret
  exact ⟨re_, uW HB.out⟩
 ·
  rw [if_neg c2] at H
  have c2b0 : (a0.toList == ([] : List UInt8)) = false := beq_eq_false_iff_ne.mpr c2
  have c2b1 : (a0.toList != ([] : List UInt8)) = true := bne_iff_ne.mpr c2
  by_cases c3 : 0 < (a0.size : Int)
  ·
   rw [if_pos c3] at H
   have c3b0 : decide (0 < (a0.size : Int)) = true := decide_eq_true c3
   have c3b1 : decide (0 < a0.size) = true := decide_eq_true (by omega)
   clear c3
   by_cases c5 : (bt a0 0) = 48
   ·
    rw [if_pos c5] at H
    have c5b0 : ((bt a0 0) == 48) = true := beq_iff_eq.mpr c5
    have c5b1 : ((bt a0 0) != 48) = false := bne_eq_false_iff_eq.mpr c5
    clear c5
    by_cases c6 : a0.toList = ([48] : List UInt8)
    ·
     rw [if_pos c6] at H
     have c6b0 : (a0.toList == ([48] : List UInt8)) = true := beq_iff_eq.mpr c6
     have c6b1 : (a0.toList != ([48] : List UInt8)) = false := bne_eq_false_iff_eq.mpr c6
     clear c6
     obtain ⟨t337, A7, H⟩ := bs H
     try dsimp only at H
     obtain rfl := Option.some.inj H
     have p4 : 0 ≤ (0 : Int) := (by omega)
     have q4 : 0 < a0.size := (by have : (0 : Int) < (a0.size : Int) := od; omega)
     have hx4 : ∀ h : 0 < a0.size, ((a0[0]'h).toNat : Int) = bt a0 0 := bt_at a0 0
     clear p4
     have qi4 : (0 < (a0.size : Int)) = True := eq_true (od)
     replace q4 := eq_true q4
     go_enter Tryz.func92, Tryz.ntmps92
     go_wp2_with (first | (refine gL (some 15) rfl Tryz.func112 #[.string a0, .string (⟨#[48, 49, 50, 51, 52, 53, 54, 55, 56, 57]⟩ : ByteArray)] ?_; (with_reducible refine (strings_Trim.calls a0 (⟨#[48, 49, 50, 51, 52, 53, 54, 55, 56, 57]⟩ : ByteArray) t337 _ A7.out).mono ?_); rintro e w8 ⟨rfl, hb⟩; refine ⟨_, rfl, ?_⟩; replace HB := cW HB hb; (try clear hb)))
     go_ret
     exact ⟨re_, uW HB.out⟩
    ·
     rw [if_neg c6] at H
     have c6b0 : (a0.toList == ([48] : List UInt8)) = false := beq_eq_false_iff_ne.mpr c6
     have c6b1 : (a0.toList != ([48] : List UInt8)) = true := bne_iff_ne.mpr c6
     obtain rfl := Option.some.inj H
     have p4 : 0 ≤ (0 : Int) := (by omega)
     have q4 : 0 < a0.size := (by have : (0 : Int) < (a0.size : Int) := od; omega)
     have hx4 : ∀ h : 0 < a0.size, ((a0[0]'h).toNat : Int) = bt a0 0 := bt_at a0 0
     clear p4
     have qi4 : (0 < (a0.size : Int)) = True := eq_true (od)
     replace q4 := eq_true q4
     go_enter Tryz.func92, Tryz.ntmps92
     go_wp2
     go_ret
     exact ⟨re_, uW HB.out⟩
   ·
    rw [if_neg c5] at H
    have c5b0 : ((bt a0 0) == 48) = false := beq_eq_false_iff_ne.mpr c5
    have c5b1 : ((bt a0 0) != 48) = true := bne_iff_ne.mpr c5
    obtain ⟨t338, A9, H⟩ := bs H
    try dsimp only at H
    obtain rfl := Option.some.inj H
    have p4 : 0 ≤ (0 : Int) := (by omega)
    have q4 : 0 < a0.size := (by have : (0 : Int) < (a0.size : Int) := od; omega)
    have hx4 : ∀ h : 0 < a0.size, ((a0[0]'h).toNat : Int) = bt a0 0 := bt_at a0 0
    clear p4
    have qi4 : (0 < (a0.size : Int)) = True := eq_true (od)
    replace q4 := eq_true q4
    go_enter Tryz.func92, Tryz.ntmps92
    go_wp2_with (first | (refine gL (some 15) rfl Tryz.func112 #[.string a0, .string (⟨#[48, 49, 50, 51, 52, 53, 54, 55, 56, 57]⟩ : ByteArray)] ?_; (with_reducible refine (strings_Trim.calls a0 (⟨#[48, 49, 50, 51, 52, 53, 54, 55, 56, 57]⟩ : ByteArray) t338 _ A9.out).mono ?_); rintro e w10 ⟨rfl, hb⟩; refine ⟨_, rfl, ?_⟩; replace HB := cW HB hb; (try clear hb)))
    go_ret
    exact ⟨re_, uW HB.out⟩
  ·
   rw [if_neg c3] at H
   exact absurd H (by simp)
def sat_Read.f (a0 : ByteArray) : Option (Int × Int) := (strings_TrimPrefix.f a0 (⟨#[45]⟩ : ByteArray)).bind fun t => ((sat_digits.f t).bind fun d => (if d = true then (if a0.toList = ([45, 48] : List UInt8) then (some (0, 2)) else (if a0.size ≤ 140737488355328 then (some (match Lib.parseIntB 64 a0.data.toList with | .ok v => (v, 0) | _ => (0, 3))) else (none))) else (some (0, 2))))
theorem sat_Read.calls (a0 : ByteArray) (r1 : Int) (r2 : Int) (w : World) (hL : LD w) (h : sat_Read.f a0 = some (r1, r2)) :
 Calls Tryz.prog 76 #[.string a0] w fun e w' => e = .returned (.tuple #[.int .i64 r1, .int .i64 r2]) ∧ Below w.heap.size w w' := by
 unfold sat_Read.f at h
 obtain ⟨t, h1, h⟩ := Option.bind_eq_some_iff.mp h
 obtain ⟨d, h2, h⟩ := Option.bind_eq_some_iff.mp h
 have H1 := Aside0.mk h1
 have H2 := Aside0.mk h2
 have HL0 := Aside0.mk hL
 clear h1 h2 hL
 cases d with
 | false =>
  rw [if_neg (by decide)] at h
  have h := Option.some.inj h
  injection h with h3 h4
  subst h3 h4
  go_enter Tryz.func76, Tryz.ntmps76
  go_wp2_with (first | (go_at_call 91; (with_reducible refine (strings_TrimPrefix.calls _ _ t _ H1.out).mono ?_); rintro e w1 ⟨rfl, ⟨n1, rfl⟩⟩) | (go_at_call 92; (with_reducible refine (sat_digits.calls _ false _ H2.out).mono ?_); rintro e w2 ⟨rfl, hb⟩; have HB := Aside0.mk (show Below w.heap.size w w2 from Below.trans (pw_below_drewN (Below.refl w.heap.size w) _) hb); clear hb))
  go_ret2
  exact ⟨rfl, HB.out⟩
 | true =>
  rw [if_pos rfl] at h
  by_cases hz : a0.toList = ([45, 48] : List UInt8)
  ·
   rw [if_pos hz] at h
   have h := Option.some.inj h
   injection h with h3 h4
   subst h3 h4
   have c6b0 : (a0.toList == ([45, 48] : List UInt8)) = true := beq_iff_eq.mpr hz
   clear hz
   go_enter Tryz.func76, Tryz.ntmps76
   go_wp2_with (first | (go_at_call 91; (with_reducible refine (strings_TrimPrefix.calls _ _ t _ H1.out).mono ?_); rintro e w1 ⟨rfl, ⟨n1, rfl⟩⟩) | (go_at_call 92; (with_reducible refine (sat_digits.calls _ true _ H2.out).mono ?_); rintro e w2 ⟨rfl, hb⟩; have HB := Aside0.mk (show Below w.heap.size w w2 from Below.trans (pw_below_drewN (Below.refl w.heap.size w) _) hb); clear hb))
   go_ret2
   exact ⟨rfl, HB.out⟩
  ·
   rw [if_neg hz] at h
   by_cases hs : a0.size ≤ 140737488355328
   ·
    rw [if_pos hs] at h
    have h := Option.some.inj h
    have c6b0 : (a0.toList == ([45, 48] : List UInt8)) = false := beq_eq_false_iff_ne.mpr hz
    have HS := Aside0.mk hs
    clear hz hs
    cases hp : Lib.parseIntB 64 a0.data.toList with
    | ok v =>
     rw [hp] at h
     injection h with h3 h4
     subst h3 h4
     have HP := Aside0.mk hp
     clear hp
     go_enter Tryz.func76, Tryz.ntmps76
     go_wp2_with (first | (go_at_call 91; (with_reducible refine (strings_TrimPrefix.calls _ _ t _ H1.out).mono ?_); rintro e w1 ⟨rfl, ⟨n1, rfl⟩⟩) | (go_at_call 92; (with_reducible refine (sat_digits.calls _ true _ H2.out).mono ?_); rintro e w2 ⟨rfl, hb⟩; have HB := Aside0.mk (show Below w.heap.size w w2 from Below.trans (pw_below_drewN (Below.refl w.heap.size w) _) hb); clear hb) | (go_at_call 93; refine (Tryz.strconv_ParseInt_10_at64_ok a0 (by have := HS.out; omega) _ HP.out _).mono ?_; rintro e w3 ⟨rfl, hw⟩; have HB3 := Aside0.mk (show Below w.heap.size w w3 from by rcases hw with rfl | ⟨t3, rfl⟩; exact HB.out; exact bytes_below HB.out HB.out.size _ t3); clear hw))
     go_ret2
     exact ⟨rfl, HB3.out⟩
    | range =>
     rw [hp] at h
     injection h with h3 h4
     subst h3 h4
     have HP := Aside0.mk hp
     clear hp
     go_enter Tryz.func76, Tryz.ntmps76
     go_wp2_with (first | (go_at_call 91; (with_reducible refine (strings_TrimPrefix.calls _ _ t _ H1.out).mono ?_); rintro e w1 ⟨rfl, ⟨n1, rfl⟩⟩) | (go_at_call 92; (with_reducible refine (sat_digits.calls _ true _ H2.out).mono ?_); rintro e w2 ⟨rfl, hb⟩; have HB := Aside0.mk (show Below w.heap.size w w2 from Below.trans (pw_below_drewN (Below.refl w.heap.size w) _) hb); clear hb) | (go_at_call 93; (obtain ⟨tp, p, hv⟩ := (LD.below HL0.out HB.out).ErrRange); refine (Tryz.strconv_ParseInt_10_at64_range_var a0 (by have := HS.out; omega) HP.out tp p _ hv).mono ?_; rintro e w3 ⟨N, rfl, hN, hc3, hb3⟩; have HB3 := Aside0.mk (show Below w.heap.size w w3 from HB.out.trans (hb3.mono HB.out.size)); clear hN hc3 hb3 hv))
     go_ret2
     exact ⟨rfl, HB3.out⟩
    | _ =>
     rw [hp] at h
     injection h with h3 h4
     subst h3 h4
     have HP := Aside0.mk hp
     clear hp
     go_enter Tryz.func76, Tryz.ntmps76
     go_wp2_with (first | (go_at_call 91; (with_reducible refine (strings_TrimPrefix.calls _ _ t _ H1.out).mono ?_); rintro e w1 ⟨rfl, ⟨n1, rfl⟩⟩) | (go_at_call 92; (with_reducible refine (sat_digits.calls _ true _ H2.out).mono ?_); rintro e w2 ⟨rfl, hb⟩; have HB := Aside0.mk (show Below w.heap.size w w2 from Below.trans (pw_below_drewN (Below.refl w.heap.size w) _) hb); clear hb) | (go_at_call 93; (obtain ⟨tp, p, hv⟩ := (LD.below HL0.out HB.out).ErrSyntax); refine (Tryz.strconv_ParseInt_10_at64_syntax_var a0 (by have := HS.out; omega) HP.out tp p _ hv).mono ?_; rintro e w3 ⟨N, rfl, hN, hc3, hb3⟩; have HB3 := Aside0.mk (show Below w.heap.size w w3 from HB.out.trans (hb3.mono HB.out.size)); clear hN hc3 hb3 hv))
     go_ret2
     exact ⟨rfl, HB3.out⟩
   ·
    rw [if_neg hs] at h
    exact absurd h (by simp)
end Go.Proofs.YtgcbejidponoaaaGreatDoor.X
