/- The statement PinBack: the program's functions that it reaches, as Lean functions, answer as it says. No condition of our own. -/
import Derived.Test.YthgoegjkiofbkaaRows
import Derived.Test.YthgoegjkiofbkaaXx13
import Derived.Test.YthgoegjkiofbkaaPurePinBack
import Derived.Test.YthgoegjkiofbkaaOpens
import Derived.WalkKit
import Derived.ProofKit
import Derived.OpenShut
import Derived.ShutString
import Derived.ChangeOld
import Derived.Below
import Derived.SizedLaws
namespace Go.Proofs.Ythgoegjkiofbkaa.pinBack
open Go.ChangeShapes Go.WideShapes Go.ChangeAt Go.RowKit Go.Proofs.Ythgoegjkiofbkaa.X Go.Proofs.YthgoegjkiofbkaaW.PrintWords Go.Proofs.Ythgoegjkiofbkaa.Opens
open Go.ChangeMaps (open_string shut_string)
theorem own : ownKnob Try.prog.godebug = none := by kernel_rfl
theorem laidOut : laidOutB Try.prog = true := by kernel_rfl
theorem opens35 {H : Type} {enc : TypeId × Value → H} {w : World} {base : Nat} {spare : Nat → Bool} {held : Bool} : Opens enc Try.prog w base spare held 35 k35 Q35 := by
  intro fuel cs y h hw
  obtain ⟨hl, hf⟩ := field_at Try.underlying35 h hw
  obtain ⟨x0, h0, q0⟩ := hf 0 _ (Kd.int .i64) _ 0 1 rfl rfl (by kernel_rfl) (opens_int Try.underlying3)
  obtain ⟨x1, h1, q1⟩ := hf 1 _ (Kd.int .i64) _ 1 1 rfl rfl (by kernel_rfl) (opens_int Try.underlying2)
  have hlen : cs.length = 2 := hl.trans (by kernel_rfl)
  exact ⟨⟨x0, x1⟩, (pair_at (o := 0) (s := 1) (o' := 1) rfl h0 (last_at (o := 1) (s := 1) (by rw [hlen]) h1)), ⟨q0, q1⟩⟩
set_option maxRecDepth 100000 in
theorem lifted (os : Os) (started : os.Started) (H : Type) (enc : TypeId × Value → H) :
    ReturnsInHanded {} Try.checked os 6 .any (Rows.pinBackSpec.pre6 enc Try.prog Try.f6 Rows.pinBackRow.domain false) (Rows.pinBackSpec.post enc Try.prog Try.f6 false true false false) := by
  refine returnsInHanded_of_change_sized (C := Try.checked) own started (by kernel_rfl) Try.func6
    (ChangeSpec.witness6 (enc := enc) (C := Try.checked) false ⟨#[], #[.slice none 0 0, .agg #[.int .i64 0, .int .i64 0]], []⟩ 8 (by kernel_rfl) (by kernel_rfl) (by kernel_rfl) (by kernel_rfl)) ?_
  intro W base args ds gs before hval0 hW hcnd hsz0 _
  have hsz : (DataW.weightsEach Try.prog (Try.f6.params.toList ++ Rows.pinBackSpec.plain.varTypes Try.prog) (ds ++ gs)).all (· ≤ reachBytes) = true := hsz0
  have hval : ∀ (j : Nat) t v, Try.f6.params[j]? = some t → args[j]? = some v → Value.okWide Try.prog W .any base t v := hval0
  have hW' := hW
  obtain ⟨p, q, hA0, hV, rfl, hfz, hnd⟩ := hW
  have hA : DataW.TrodAll enc Try.prog W 0 (fun _ => true) true Try.f6.params.toList args.toList ds p := hA0
  rw [Try.params6] at hA hval hsz
  obtain ⟨v0, vs0, d0, ds0, p0, q0, hargs, rfl, rfl, h0, r0⟩ := trodAll_cons hA
  obtain ⟨v1, vs1, d1, ds1, p1, q1, rfl, rfl, rfl, h1, r1⟩ := trodAll_cons r0
  obtain ⟨rfl, rfl, rfl⟩ := trodAll_nil r1
  obtain rfl : args = #[v0, v1] := by cases args; simp_all
  obtain ⟨rfl, rfl⟩ := trodVars_none hV
  obtain ⟨a0, len0, cap0, rfl⟩ := okWide_slice Try.underlying22 (hval 0 22 v0 rfl rfl)
  have k0 := h0
  have lt0 : ∀ x ∈ p0, x.block < W.heap.size := by obtain ⟨m, hm⟩ := k0; exact DataW.trod_lt m _ _ _ hm
  have y0 := sized_any hsz (j := 0) (t := 22) (B := 16) rfl rfl Try.underlying22 (by kernel_rfl) h0
  obtain ⟨l0, rfl, hc0, hr0, w0⟩ := slice_of (opens_slice Try.underlying22 (by kernel_rfl) opens35) h0 (weighs hsz (j := 0) (t := 22) rfl rfl)
  obtain ⟨cs1, rfl, _⟩ := okWide_struct Try.underlying35 (hval 1 35 v1 rfl rfl)
  have k1 := h1
  have lt1 : ∀ x ∈ p1, x.block < W.heap.size := by obtain ⟨m, hm⟩ := k1; exact DataW.trod_lt m _ _ _ hm
  obtain ⟨x1, hK1, w1⟩ := struct_of opens35 h1 (weighs hsz (j := 1) (t := 35) rfl rfl)
  have e1 := k35_open hK1
  obtain rfl := agg_of e1
  clear hA0 hval0 hsz0 hsz
  refine (ebbtidelaw15_PinBack.walk Pure.PinBack l0 x1 W _ _ hr0 hc0 w0 y0 w1).mono fun e W' ⟨he, bel⟩ => ?_
  subst he
  exact ⟨_, rfl, _, _, _, [], _, [], hW', trodAll_mk1 (shut_bool Try.underlying4 _), (trodAll_cons_mk (Below.trod laidOut (by kernel_rfl) (of_decide_eq_true (by kernel_rfl)) k0 bel lt0) (trodAll_cons_mk (Below.trod laidOut (by kernel_rfl) (of_decide_eq_true (by kernel_rfl)) k1 bel lt1) trodAll_mk0)), rfl, bel.frame _, fun h => by cases h⟩
theorem over : Rows.pinBackRow.holds Try.pinned (OpenSpec.ofChange Rows.pinBackSpec) :=
  OpenClaim.holds_of_wide 6 Try.f6 rfl rfl rfl rfl rfl rfl rfl ⟨rfl, rfl, rfl, rfl, rfl⟩ rfl rfl rfl rfl rfl (by kernel_rfl) Try.func6 (by kernel_rfl)
    (of_decide_eq_true (by kernel_rfl)) (by unfold Func.isWrapper; first | (rw [if_pos (by decide +kernel)]; kernel_rfl) | (rw [if_neg (by decide +kernel)]; exact ⟨rfl, rfl⟩))
    (fun os started H enc _ => lifted os started H enc)
theorem proved : Rows.PinBackSaid := over
end Go.Proofs.Ythgoegjkiofbkaa.pinBack
namespace Go.Proofs.Ythgoegjkiofbkaa
/-- The row, under a short name, for the claim. -/
theorem pinBack_holds : Rows.PinBackSaid := pinBack.proved
#print axioms pinBack_holds
end Go.Proofs.Ythgoegjkiofbkaa
