/- The statement SessionOn: the program's functions that it reaches, as Lean functions, answer as it says. No condition of our own. -/
import Derived.Test.YtjheajgckpfieaaDoorRows
import Derived.Test.YtjheajgckpfieaaDoorXx19
import Derived.Test.YtjheajgckpfieaaDoorPureSessionOn
import Derived.Test.YtjheajgckpfieaaDoorOpens
import Derived.WalkKit
import Derived.ProofKit
import Derived.OpenShut
import Derived.ShutString
import Derived.ChangeOld
import Derived.Below
import Derived.SizedLaws
import Derived.LaidLaws
import Derived.LaidMore
import Derived.Stop.Joined
import Derived.SevenTiedAt
import Derived.Test.YtjheajgckpfieaaDoorTie
import Derived.Test.YtjheajgckpfieaaDoorCards
import Derived.Test.YtjheajgckpfieaaDoorWrap
namespace Go.Proofs.YtjheajgckpfieaaDoor.sessionOn
open Go.ChangeShapes Go.WideShapes Go.ChangeAt Go.RowKit Go.Proofs.YtjheajgckpfieaaDoor.X Go.Proofs.YtjheajgckpfieaaDoorW.PrintWords Go.Proofs.YtjheajgckpfieaaDoor.Opens
open Go.ChangeMaps (open_string shut_string)
noncomputable def laidWorld (os : Os) : World :=
  World.doorLaid Tryd.prog 24 os
theorem laidWorld_met (os : Os) (args : Array Value) : laidMetH Tryd.prog Rows.sessionOnRow.laid ((laidWorld os).forCall (fun _ _ => 0) ⟨#[], args, []⟩).memory :=
  laidMetH_of_parts3 (fuel := 8) (laidMet_of_run' 8 (by kernel_rfl) (by kernel_rfl)) (by kernel_rfl) (by kernel_rfl)
theorem own : ownKnob Tryd.prog.godebug = none := by kernel_rfl
theorem laidOut : laidOutB Tryd.prog = true := by kernel_rfl
theorem opens24 {H : Type} {enc : TypeId × Value → H} {w : World} {base : Nat} {spare : Nat → Bool} {held : Bool} : Opens enc Tryd.prog w base spare held 24 k24 Q24 := by
  intro fuel cs y h hw
  obtain ⟨hl, hf⟩ := field_at Tryd.underlying24 h hw
  obtain ⟨x0, h0, q0⟩ := hf 0 _ (Kd.slice 5 (Kd.int .u8)) _ 0 1 rfl rfl (by kernel_rfl) (opens_slice Tryd.underlying22 (by kernel_rfl) (opens_int Tryd.underlying5))
  obtain ⟨x1, h1, q1⟩ := hf 1 _ Kd.bool _ 1 1 rfl rfl (by kernel_rfl) (opens_bool Tryd.underlying4)
  have hlen : cs.length = 2 := hl.trans (by kernel_rfl)
  exact ⟨⟨x0, x1⟩, (pair_at (o := 0) (s := 1) (o' := 1) rfl h0 (last_at (o := 1) (s := 1) (by rw [hlen]) h1)), ⟨q0, q1⟩⟩
theorem opens42 {H : Type} {enc : TypeId × Value → H} {w : World} {base : Nat} {spare : Nat → Bool} {held : Bool} : Opens enc Tryd.prog w base spare held 42 k42 Q42 := by
  intro fuel cs y h hw
  obtain ⟨hl, hf⟩ := field_at Tryd.underlying42 h hw
  obtain ⟨x0, h0, q0⟩ := hf 0 _ Kd.string _ 0 1 rfl rfl (by kernel_rfl) (opens_string Tryd.underlying9)
  obtain ⟨x1, h1, q1⟩ := hf 1 _ (Kd.int .i64) _ 1 1 rfl rfl (by kernel_rfl) (opens_int Tryd.underlying3)
  obtain ⟨x2, h2, q2⟩ := hf 2 _ (Kd.int .i64) _ 2 1 rfl rfl (by kernel_rfl) (opens_int Tryd.underlying2)
  obtain ⟨x3, h3, q3⟩ := hf 3 _ (Kd.int .i64) _ 3 1 rfl rfl (by kernel_rfl) (opens_int Tryd.underlying3)
  have hlen : cs.length = 4 := hl.trans (by kernel_rfl)
  exact ⟨⟨x0, x1, x2, x3⟩, (pair_at (o := 0) (s := 1) (o' := 1) rfl h0 (pair_at (o := 1) (s := 1) (o' := 2) rfl h1 (pair_at (o := 2) (s := 1) (o' := 3) rfl h2 (last_at (o := 3) (s := 1) (by rw [hlen]) h3)))), ⟨q0, q1, q2, q3⟩⟩
theorem opens27 {H : Type} {enc : TypeId × Value → H} {w : World} {base : Nat} {spare : Nat → Bool} {held : Bool} : Opens enc Tryd.prog w base spare held 27 k27 Q27 := by
  intro fuel cs y h hw
  obtain ⟨hl, hf⟩ := field_at Tryd.underlying27 h hw
  obtain ⟨x0, h0, q0⟩ := hf 0 _ k24 _ 0 2 rfl rfl (by kernel_rfl) opens24
  obtain ⟨x1, h1, q1⟩ := hf 1 _ (Kd.slice 42 k42) _ 2 1 rfl rfl (by kernel_rfl) (opens_slice Tryd.underlying25 (by kernel_rfl) opens42)
  have hlen : cs.length = 3 := hl.trans (by kernel_rfl)
  exact ⟨⟨x0, x1⟩, (pair_at (o := 0) (s := 2) (o' := 2) rfl h0 (last_at (o := 2) (s := 1) (by rw [hlen]) h1)), ⟨q0, q1⟩⟩
theorem opens46 {H : Type} {enc : TypeId × Value → H} {w : World} {base : Nat} {spare : Nat → Bool} {held : Bool} : Opens enc Tryd.prog w base spare held 46 k46 Q46 := by
  intro fuel cs y h hw
  obtain ⟨hl, hf⟩ := elem_at Tryd.underlying46 h hw
  obtain ⟨x0, h0, q0⟩ := hf 0 (Kd.int .i64) _ 0 1 (by decide) (by kernel_rfl) (by kernel_rfl) (opens_int Tryd.underlying2)
  obtain ⟨x1, h1, q1⟩ := hf 1 (Kd.int .i64) _ 1 1 (by decide) (by kernel_rfl) (by kernel_rfl) (opens_int Tryd.underlying2)
  have hlen : cs.length = 2 := hl.trans (by kernel_rfl)
  exact ⟨⟨x0, x1⟩, (pair_at (o := 0) (s := 1) (o' := 1) rfl h0 (last_at (o := 1) (s := 1) (by rw [hlen]) h1)), ⟨q0, q1⟩⟩
set_option maxRecDepth 100000 in
theorem lifted (os : Os) (started : os.Started) (H : Type) (enc : TypeId × Value → H) :
    ReturnsInHanded {} Tryd.checked os 6 .any (fun w args => (Rows.sessionOnSpec.pre enc Tryd.prog Tryd.f6 [] false w args ∧ laidMetH Tryd.prog Rows.sessionOnRow.laid w) ∧ sizedMet enc Tryd.prog Tryd.f6 (OpenSpec.ofChange Rows.sessionOnSpec) false w args) (Rows.sessionOnSpec.post enc Tryd.prog Tryd.f6 false true false false) := by
  refine X.handed_shaped (C := Tryd.checked) (X := fun w _ => laidMetH Tryd.prog Rows.sessionOnRow.laid w) (fun _ _ _ hh h => h.of_heap hh) own started (by kernel_rfl) Tryd.func6
    (ChangeSpec.witness_shaped (enc := enc) (C := Tryd.checked) (os := os) (X := fun w _ => laidMetH Tryd.prog Rows.sessionOnRow.laid w) false (laidWorld os) #[.agg #[.slice none 0 0, .bool false, .slice none 0 0], .agg #[.int .i64 0, .int .i64 0]] 8 rfl (World.shaped_of_RefB (by kernel_rfl) (by kernel_rfl)) (by kernel_rfl) (by kernel_rfl) (by kernel_rfl) (laidWorld_met os _)) ?_
  intro W base args ds gs before hval0 hW hcnd hsz0 hLd0 hsh0 _
  have hLd : X.LD W := X.LD_of rfl hsh0 hLd0
  have hsz : (DataW.weightsEach Tryd.prog (Tryd.f6.params.toList ++ Rows.sessionOnSpec.plain.varTypes Tryd.prog) (ds ++ gs)).all (· ≤ reachBytes) = true := hsz0
  have hval : ∀ (j : Nat) t v, Tryd.f6.params[j]? = some t → args[j]? = some v → Value.okWide Tryd.prog W .any base t v := hval0
  have hW' := hW
  obtain ⟨p, q, hA0, hV, rfl, hfz, hnd⟩ := hW
  have hA : DataW.TrodAll enc Tryd.prog W 0 (fun _ => true) true Tryd.f6.params.toList args.toList ds p := hA0
  rw [Tryd.params6] at hA hval hsz
  obtain ⟨v0, vs0, d0, ds0, p0, q0, hargs, rfl, rfl, h0, r0⟩ := trodAll_cons hA
  obtain ⟨v1, vs1, d1, ds1, p1, q1, rfl, rfl, rfl, h1, r1⟩ := trodAll_cons r0
  obtain ⟨rfl, rfl, rfl⟩ := trodAll_nil r1
  obtain rfl : args = #[v0, v1] := by cases args; simp_all
  obtain ⟨rfl, rfl⟩ := trodVars_none hV
  obtain ⟨cs0, rfl, _⟩ := okWide_struct Tryd.underlying27 (hval 0 27 v0 rfl rfl)
  have k0 := h0
  have lt0 : ∀ x ∈ p0, x.block < W.heap.size := by obtain ⟨m, hm⟩ := k0; exact DataW.trod_lt m _ _ _ hm
  obtain ⟨x0, hK0, w0⟩ := struct_of opens27 h0 (weighs hsz (j := 0) (t := 27) rfl rfl)
  obtain ⟨A0_0, c0_0, A0_2, c0_2, e0, hc0_0, hr0_0, hc0_2, hr0_2⟩ := k27_open hK0
  obtain rfl := agg_of e0
  obtain ⟨cs1, rfl, _⟩ := okWide_arr Tryd.underlying46 (hval 1 46 v1 rfl rfl)
  have k1 := h1
  have lt1 : ∀ x ∈ p1, x.block < W.heap.size := by obtain ⟨m, hm⟩ := k1; exact DataW.trod_lt m _ _ _ hm
  obtain ⟨x1, hK1, w1⟩ := struct_of opens46 h1 (weighs hsz (j := 1) (t := 46) rfl rfl)
  have e1 := k46_open hK1
  obtain rfl := agg_of e1
  clear hA0 hval0 hsz0 hsz
  refine (ebbtidelaw24_SessionOn.walk (hL := hLd) Pure.SessionOn x0 x1 W _ _ hr0_0 hc0_0 _ _ hr0_2 hc0_2 w0 w1).mono fun e W' ⟨he, bel⟩ => ?_
  subst he
  exact ⟨_, rfl, _, _, _, [], _, [], hW', trodAll_mk1 (shut_bool Tryd.underlying4 _), (trodAll_cons_mk (Below.trod laidOut (by kernel_rfl) (of_decide_eq_true (by kernel_rfl)) k0 bel lt0) (trodAll_cons_mk (Below.trod laidOut (by kernel_rfl) (of_decide_eq_true (by kernel_rfl)) k1 bel lt1) trodAll_mk0)), rfl, bel.frame _, fun h => by cases h⟩
theorem over : Rows.sessionOnRow.holds Tryd.pinned (OpenSpec.ofChange Rows.sessionOnSpec) :=
  OpenClaim.holds_of_wide 6 Tryd.f6 rfl rfl rfl rfl rfl rfl rfl ⟨rfl, rfl, rfl, rfl, rfl⟩ rfl rfl rfl rfl rfl (by kernel_rfl) Tryd.func6 (by kernel_rfl)
    (of_decide_eq_true (by kernel_rfl)) (by unfold Func.isWrapper; first | (rw [if_pos (by decide +kernel)]; kernel_rfl) | (rw [if_neg (by decide +kernel)]; exact ⟨rfl, rfl⟩))
    (fun os started H enc _ => lifted os started H enc)
theorem proved : Rows.SessionOnSaid := over
end Go.Proofs.YtjheajgckpfieaaDoor.sessionOn
namespace Go.Proofs.YtjheajgckpfieaaDoor
/-- The tied card: the row, and what it lists, tied to the program's text. -/
theorem sessionOn_card : Rows.SessionOnCardSaid :=
  Claim7.holds_tied_plain_at .later [] [.data, .data, .data] true (true, "f2bdbe672d8d28c530dd3ef45f2b34dcd4edf530b356edcdc780f00d95817bbe") false
    sessionOn.proved (fun _ h => by cases h) (by kernel_rfl) (fun _ h => by cases h) sessionOn_row_tie rfl ⟨rfl, rfl⟩ (by kernel_rfl) rfl
    (fun f fn hf hfn => by
      obtain rfl : f = 6 := Option.some.inj ((show Tryd.prog.funcNamed "ebbtide/ebbtidelaw24.SessionOn" = some 6 by kernel_rfl).symm.trans hf) |>.symm
      obtain rfl : fn = Tryd.f6 := (Option.some.inj (Tryd.func6.symm.trans hfn)).symm
      exact ⟨by kernel_rfl, fun j t ht => by
        rw [Tryd.params6] at ht
        have hm := Array.mem_of_getElem? ht
        simp only [List.mem_toArray, List.mem_cons, List.not_mem_nil, or_false] at hm
        rcases hm with rfl | rfl
        · exact (show Tryd.prog.wantsStandIn 27 = false by kernel_rfl)
        · exact (show Tryd.prog.wantsStandIn 46 = false by kernel_rfl)⟩)
    (by kernel_rfl)
/-- The card, under a short name, for the claim. -/
theorem sessionOn_holds : Rows.SessionOnCardSaid := sessionOn_card
#print axioms sessionOn_holds
end Go.Proofs.YtjheajgckpfieaaDoor
