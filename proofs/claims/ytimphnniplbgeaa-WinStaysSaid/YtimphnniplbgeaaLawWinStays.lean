/- The statement WinStays: the program's functions that it reaches, as Lean functions, answer as it says. No condition of our own. -/
import Derived.Test.YtimphnniplbgeaaRows
import Derived.Test.YtimphnniplbgeaaXx3
import Derived.Test.YtimphnniplbgeaaPureWinStays
import Derived.Test.YtimphnniplbgeaaOpens
import Derived.WalkKit
import Derived.ProofKit
import Derived.OpenShut
import Derived.ShutString
import Derived.ChangeOld
import Derived.Below
import Derived.SizedLaws
namespace Go.Proofs.Ytimphnniplbgeaa.winStays
open Go.ChangeShapes Go.WideShapes Go.ChangeAt Go.RowKit Go.Proofs.Ytimphnniplbgeaa.X Go.Proofs.YtimphnniplbgeaaW.PrintWords Go.Proofs.Ytimphnniplbgeaa.Opens
open Go.ChangeMaps (open_string shut_string)
theorem own : ownKnob Try.prog.godebug = none := by kernel_rfl
theorem laidOut : laidOutB Try.prog = true := by kernel_rfl
theorem opens31 {H : Type} {enc : TypeId × Value → H} {w : World} {base : Nat} {spare : Nat → Bool} {held : Bool} : Opens enc Try.prog w base spare held 31 k31 Q31 := by
  intro fuel cs y h
  obtain ⟨hl, hf⟩ := elem_at Try.underlying31 h
  obtain ⟨x0, h0, q0⟩ := hf 0 (Kd.int .i64) _ 0 1 (by decide) (by kernel_rfl) (by kernel_rfl) (opens_int Try.underlying2)
  obtain ⟨x1, h1, q1⟩ := hf 1 (Kd.int .i64) _ 1 1 (by decide) (by kernel_rfl) (by kernel_rfl) (opens_int Try.underlying2)
  obtain ⟨x2, h2, q2⟩ := hf 2 (Kd.int .i64) _ 2 1 (by decide) (by kernel_rfl) (by kernel_rfl) (opens_int Try.underlying2)
  have hlen : cs.length = 3 := hl.trans (by kernel_rfl)
  exact ⟨⟨x0, x1, x2⟩, (pair_at (o := 0) (s := 1) (o' := 1) rfl h0 (pair_at (o := 1) (s := 1) (o' := 2) rfl h1 (last_at (o := 2) (s := 1) (by rw [hlen]) h2))), ⟨q0, q1, q2⟩⟩
set_option maxRecDepth 100000 in
theorem lifted (os : Os) (started : os.Started) (H : Type) (enc : TypeId × Value → H) :
    ReturnsInHanded {} Try.checked os 6 .any (Rows.winStaysSpec.pre6 enc Try.prog Try.f6 Rows.winStaysRow.domain false) (Rows.winStaysSpec.post enc Try.prog Try.f6 false true false false) := by
  refine returnsInHanded_of_change_sized (C := Try.checked) own started (by kernel_rfl) Try.func6
    (ChangeSpec.witness6 (enc := enc) (C := Try.checked) false ⟨#[], #[.int .i64 0, .int .i64 0, .agg #[.int .i64 0, .int .i64 0, .int .i64 0]], []⟩ 8 (by kernel_rfl) (by kernel_rfl) (by kernel_rfl) (by kernel_rfl)) ?_
  intro W base args ds gs before hval0 hW hcnd hsz0 _
  have hsz : (DataW.weightsEach Try.prog (Try.f6.params.toList ++ Rows.winStaysSpec.plain.varTypes Try.prog) (ds ++ gs)).all (· ≤ reachBytes) = true := hsz0
  have hval : ∀ (j : Nat) t v, Try.f6.params[j]? = some t → args[j]? = some v → Value.okWide Try.prog W .any base t v := hval0
  have hW' := hW
  obtain ⟨p, q, hA0, hV, rfl, hfz, hnd⟩ := hW
  have hA : DataW.TrodAll enc Try.prog W 0 (fun _ => true) true Try.f6.params.toList args.toList ds p := hA0
  rw [Try.params6] at hA hval hsz
  obtain ⟨v0, vs0, d0, ds0, p0, q0, hargs, rfl, rfl, h0, r0⟩ := trodAll_cons hA
  obtain ⟨v1, vs1, d1, ds1, p1, q1, rfl, rfl, rfl, h1, r1⟩ := trodAll_cons r0
  obtain ⟨v2, vs2, d2, ds2, p2, q2, rfl, rfl, rfl, h2, r2⟩ := trodAll_cons r1
  obtain ⟨rfl, rfl, rfl⟩ := trodAll_nil r2
  obtain rfl : args = #[v0, v1, v2] := by cases args; simp_all
  obtain ⟨rfl, rfl⟩ := trodVars_none hV
  obtain ⟨a0, rfl, rfl, rfl, w0⟩ := open_int Try.underlying2 (hval 0 2 v0 rfl rfl) h0
  obtain ⟨a1, rfl, rfl, rfl, w1⟩ := open_int Try.underlying2 (hval 1 2 v1 rfl rfl) h1
  obtain ⟨cs2, rfl, _⟩ := okWide_arr Try.underlying31 (hval 2 31 v2 rfl rfl)
  have k2 := h2
  have lt2 : ∀ x ∈ p2, x.block < W.heap.size := by obtain ⟨m, hm⟩ := k2; exact DataW.trod_lt m _ _ _ hm
  obtain ⟨x2, hK2, w2⟩ := struct_of opens31 h2
  have e2 := k31_open hK2
  obtain rfl := agg_of e2
  clear hA0 hval0 hsz0 hsz
  refine (ebbtidelaw13_WinStays.walk Pure.WinStays a0 a1 x2 W  w0 w1 w2).mono fun e W' ⟨he, bel⟩ => ?_
  subst he
  exact ⟨_, rfl, _, _, _, [], _, [], hW', trodAll_mk1 (shut_bool Try.underlying4 _), (trodAll_cons_mk (shut_int Try.underlying2 w0) (trodAll_cons_mk (shut_int Try.underlying2 w1) (trodAll_cons_mk (Below.trod laidOut (by kernel_rfl) (of_decide_eq_true (by kernel_rfl)) k2 bel lt2) trodAll_mk0))), rfl, bel.frame _, fun h => by cases h⟩
theorem over : Rows.winStaysRow.holds Try.pinned (OpenSpec.ofChange Rows.winStaysSpec) :=
  OpenClaim.holds_of_wide 6 Try.f6 rfl rfl rfl rfl rfl rfl rfl ⟨rfl, rfl, rfl, rfl, rfl⟩ rfl rfl rfl rfl rfl (by kernel_rfl) Try.func6 (by kernel_rfl)
    (of_decide_eq_true (by kernel_rfl)) (by unfold Func.isWrapper; first | (rw [if_pos (by decide +kernel)]; kernel_rfl) | (rw [if_neg (by decide +kernel)]; exact ⟨rfl, rfl⟩))
    (fun os started H enc _ => lifted os started H enc)
theorem proved : Rows.WinStaysSaid := over
end Go.Proofs.Ytimphnniplbgeaa.winStays
namespace Go.Proofs.Ytimphnniplbgeaa
/-- The row, under a short name, for the claim. -/
theorem winStays_holds : Rows.WinStaysSaid := winStays.proved
#print axioms winStays_holds
end Go.Proofs.Ytimphnniplbgeaa
