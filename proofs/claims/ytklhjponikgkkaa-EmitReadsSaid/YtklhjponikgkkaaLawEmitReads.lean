/- The statement EmitReads: the program's functions that it reaches, as Lean functions, answer as it says. No condition of our own. -/
import Derived.Test.YtklhjponikgkkaaRows
import Derived.Test.YtklhjponikgkkaaM13
import Derived.Test.YtklhjponikgkkaaM14
import Derived.Test.YtklhjponikgkkaaM1
import Derived.WalkKit
import Derived.ProofKit
import Derived.OpenShut
import Derived.ShutString
import Derived.ChangeOld
import Derived.Below
import Derived.SizedLaws
namespace Go.Proofs.Ytklhjponikgkkaa.emitReads
open Go.ChangeShapes Go.WideShapes Go.ChangeAt Go.RowKit Go.Proofs.Ytklhjponikgkkaa.X Go.Proofs.YtklhjponikgkkaaW.PrintWords Go.Proofs.Ytklhjponikgkkaa.Opens
open Go.ChangeMaps (open_string shut_string)
theorem own : ownKnob Try.prog.godebug = none := by kernel_rfl
theorem laidOut : laidOutB Try.prog = true := by kernel_rfl
theorem opens52 {H : Type} {enc : TypeId × Value → H} {w : World} {base : Nat} {spare : Nat → Bool} {held : Bool} : Opens enc Try.prog w base spare held 52 k52 Q52 := by
  intro fuel cs y h hw
  obtain ⟨hl, hf⟩ := field_at Try.underlying52 h hw
  obtain ⟨x0, h0, q0⟩ := hf 0 _ (Kd.int .i64) _ 0 1 rfl rfl (by kernel_rfl) (opens_int Try.underlying2)
  obtain ⟨x1, h1, q1⟩ := hf 1 _ Kd.bool _ 1 1 rfl rfl (by kernel_rfl) (opens_bool Try.underlying4)
  have hlen : cs.length = 2 := hl.trans (by kernel_rfl)
  exact ⟨⟨x0, x1⟩, (pair_at (o := 0) (s := 1) (o' := 1) rfl h0 (last_at (o := 1) (s := 1) (by rw [hlen]) h1)), ⟨q0, q1⟩⟩
theorem opens54 {H : Type} {enc : TypeId × Value → H} {w : World} {base : Nat} {spare : Nat → Bool} {held : Bool} : Opens enc Try.prog w base spare held 54 k54 Q54 := by
  intro fuel cs y h hw
  obtain ⟨hl, hf⟩ := field_at Try.underlying54 h hw
  obtain ⟨x0, h0, q0⟩ := hf 0 _ (Kd.int .i64) _ 0 1 rfl rfl (by kernel_rfl) (opens_int Try.underlying2)
  obtain ⟨x1, h1, q1⟩ := hf 1 _ k52 _ 1 2 rfl rfl (by kernel_rfl) opens52
  obtain ⟨x2, h2, q2⟩ := hf 2 _ (Kd.int .i64) _ 3 1 rfl rfl (by kernel_rfl) (opens_int Try.underlying2)
  obtain ⟨x3, h3, q3⟩ := hf 3 _ (Kd.int .i64) _ 4 1 rfl rfl (by kernel_rfl) (opens_int Try.underlying2)
  have hlen : cs.length = 5 := hl.trans (by kernel_rfl)
  exact ⟨⟨x0, x1, x2, x3⟩, (pair_at (o := 0) (s := 1) (o' := 1) rfl h0 (pair_at (o := 1) (s := 2) (o' := 3) rfl h1 (pair_at (o := 3) (s := 1) (o' := 4) rfl h2 (last_at (o := 4) (s := 1) (by rw [hlen]) h3)))), ⟨q0, q1, q2, q3⟩⟩
theorem opens96 {H : Type} {enc : TypeId × Value → H} {w : World} {base : Nat} {spare : Nat → Bool} {held : Bool} : Opens enc Try.prog w base spare held 96 k96 Q96 := by
  intro fuel cs y h hw
  obtain ⟨hl, hf⟩ := field_at Try.underlying96 h hw
  obtain ⟨x0, h0, q0⟩ := hf 0 _ (Kd.int .i64) _ 0 1 rfl rfl (by kernel_rfl) (opens_int Try.underlying2)
  obtain ⟨x1, h1, q1⟩ := hf 1 _ k54 _ 1 5 rfl rfl (by kernel_rfl) opens54
  have hlen : cs.length = 6 := hl.trans (by kernel_rfl)
  exact ⟨⟨x0, x1⟩, (pair_at (o := 0) (s := 1) (o' := 1) rfl h0 (last_at (o := 1) (s := 5) (by rw [hlen]) h1)), ⟨q0, q1⟩⟩
theorem opens70 {H : Type} {enc : TypeId × Value → H} {w : World} {base : Nat} {spare : Nat → Bool} {held : Bool} : Opens enc Try.prog w base spare held 70 k70 Q70 := by
  intro fuel cs y h hw
  obtain ⟨hl, hf⟩ := field_at Try.underlying70 h hw
  obtain ⟨x0, h0, q0⟩ := hf 0 _ (Kd.int .i64) _ 0 1 rfl rfl (by kernel_rfl) (opens_int Try.underlying2)
  obtain ⟨x1, h1, q1⟩ := hf 1 _ Kd.string _ 1 1 rfl rfl (by kernel_rfl) (opens_string Try.underlying9)
  obtain ⟨x2, h2, q2⟩ := hf 2 _ (Kd.slice 96 k96) _ 2 1 rfl rfl (by kernel_rfl) (opens_slice Try.underlying68 (by kernel_rfl) opens96)
  have hlen : cs.length = 3 := hl.trans (by kernel_rfl)
  exact ⟨⟨x0, x1, x2⟩, (pair_at (o := 0) (s := 1) (o' := 1) rfl h0 (pair_at (o := 1) (s := 1) (o' := 2) rfl h1 (last_at (o := 2) (s := 1) (by rw [hlen]) h2))), ⟨q0, q1, q2⟩⟩
theorem opens50 {H : Type} {enc : TypeId × Value → H} {w : World} {base : Nat} {spare : Nat → Bool} {held : Bool} : Opens enc Try.prog w base spare held 50 k50 Q50 := by
  intro fuel cs y h hw
  obtain ⟨hl, hf⟩ := field_at Try.underlying50 h hw
  obtain ⟨x0, h0, q0⟩ := hf 0 _ (Kd.slice 70 k70) _ 0 1 rfl rfl (by kernel_rfl) (opens_slice Try.underlying48 (by kernel_rfl) opens70)
  have hlen : cs.length = 1 := hl.trans (by kernel_rfl)
  exact ⟨⟨x0⟩, (last_at (o := 0) (s := 1) (by rw [hlen]) h0), q0⟩
set_option maxRecDepth 100000 in
theorem lifted (os : Os) (started : os.Started) (H : Type) (enc : TypeId × Value → H) :
    ReturnsInHanded {} Try.checked os 6 .any (Rows.emitReadsSpec.pre6 enc Try.prog Try.f6 Rows.emitReadsRow.domain false) (Rows.emitReadsSpec.post enc Try.prog Try.f6 false true false false) := by
  refine returnsInHanded_of_change_sized (C := Try.checked) own started (by kernel_rfl) Try.func6
    (ChangeSpec.witness6 (enc := enc) (C := Try.checked) false ⟨#[], #[.int .i64 0, .int .i64 0, .slice none 0 0], []⟩ 8 (by kernel_rfl) (by kernel_rfl) (by kernel_rfl) (by kernel_rfl)) ?_
  intro W base args ds gs before hval0 hW hcnd hsz0 _
  have hsz : (DataW.weightsEach Try.prog (Try.f6.params.toList ++ Rows.emitReadsSpec.plain.varTypes Try.prog) (ds ++ gs)).all (· ≤ reachBytes) = true := hsz0
  have hval : ∀ (j : Nat) t v, Try.f6.params[j]? = some t → args[j]? = some v → Value.okWide Try.prog W .any base t v := hval0
  have hW' := hW
  obtain ⟨p, q, hA0, hV, rfl, hfz, hnd⟩ := hW
  have hA : DataW.TrodAll enc Try.prog W 0 (fun _ => true) true Try.f6.params.toList args.toList ds p := hA0
  rw [Try.params6] at hA hval hsz
  obtain ⟨v0, vs0, d0, ds0, p0, q0, hargs, rfl, rfl, h0, r0⟩ := trodAll_cons hA
  obtain ⟨v1, vs1, d1, ds1, p1, q1, rfl, rfl, rfl, h1, r1⟩ := trodAll_cons r0
  obtain ⟨v2, vs2, d2, ds2, p2, q2, rfl, rfl, rfl, h2, r2⟩ := trodAll_cons r1
  obtain ⟨rfl, rfl, rfl⟩ := trodAll_nil r2
  obtain rfl : args = #[v0, v1, v2] := by cases args; simp_all
  obtain ⟨rfl, rfl⟩ := trodVars_none hV
  obtain ⟨a0, rfl, rfl, rfl, w0⟩ := open_int Try.underlying2 (hval 0 2 v0 rfl rfl) h0
  obtain ⟨a1, rfl, rfl, rfl, w1⟩ := open_int Try.underlying2 (hval 1 2 v1 rfl rfl) h1
  obtain ⟨a2, len2, cap2, rfl⟩ := okWide_slice Try.underlying26 (hval 2 26 v2 rfl rfl)
  have k2 := h2
  have lt2 : ∀ x ∈ p2, x.block < W.heap.size := by obtain ⟨m, hm⟩ := k2; exact DataW.trod_lt m _ _ _ hm
  have y2 := sized_any hsz (j := 2) (t := 26) (B := 24) rfl rfl Try.underlying26 (by kernel_rfl) h2
  obtain ⟨l2, rfl, hc2, hr2, w2⟩ := slice_of (opens_slice Try.underlying26 (by kernel_rfl) opens50) h2 (weighs hsz (j := 2) (t := 26) rfl rfl)
  clear hA0 hval0 hsz0 hsz
  refine (w17_EmitReads.walk Pure.EmitReads a0 a1 l2 W _ _ hr2 hc2 w0 w1 w2 y2).mono fun e W' ⟨he, bel⟩ => ?_
  subst he
  exact ⟨_, rfl, _, _, _, [], _, [], hW', trodAll_mk1 (shut_bool Try.underlying4 _), (trodAll_cons_mk (shut_int Try.underlying2 w0) (trodAll_cons_mk (shut_int Try.underlying2 w1) (trodAll_cons_mk (Below.trod laidOut (by kernel_rfl) (of_decide_eq_true (by kernel_rfl)) k2 bel lt2) trodAll_mk0))), rfl, bel.frame _, fun h => by cases h⟩
theorem over : Rows.emitReadsRow.holds Try.pinned (OpenSpec.ofChange Rows.emitReadsSpec) :=
  OpenClaim.holds_of_wide 6 Try.f6 rfl rfl rfl rfl rfl rfl rfl ⟨rfl, rfl, rfl, rfl, rfl⟩ rfl rfl rfl rfl rfl (by kernel_rfl) Try.func6 (by kernel_rfl)
    (of_decide_eq_true (by kernel_rfl)) (by unfold Func.isWrapper; first | (rw [if_pos (by decide +kernel)]; kernel_rfl) | (rw [if_neg (by decide +kernel)]; exact ⟨rfl, rfl⟩))
    (fun os started H enc _ => lifted os started H enc)
theorem proved : Rows.EmitReadsSaid := over
end Go.Proofs.Ytklhjponikgkkaa.emitReads
namespace Go.Proofs.Ytklhjponikgkkaa
/-- The row, under a short name, for the claim. -/
theorem emitReads_holds : Rows.EmitReadsSaid := emitReads.proved
#print axioms emitReads_holds
end Go.Proofs.Ytklhjponikgkkaa
