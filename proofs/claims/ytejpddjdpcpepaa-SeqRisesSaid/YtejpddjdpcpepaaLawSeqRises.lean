/- The statement SeqRises: the program's functions that it reaches, as Lean functions, answer as it says. No condition of our own. -/
import Derived.Test.YtejpddjdpcpepaaRows
import Derived.Test.YtejpddjdpcpepaaXx12
import Derived.Test.YtejpddjdpcpepaaPureSeqRises
import Derived.Test.YtejpddjdpcpepaaOpens
import Derived.WalkKit
import Derived.ProofKit
import Derived.OpenShut
import Derived.ShutString
import Derived.ChangeOld
import Derived.Below
import Derived.SizedLaws
namespace Go.Proofs.Ytejpddjdpcpepaa.seqRises
open Go.ChangeShapes Go.WideShapes Go.ChangeAt Go.RowKit Go.Proofs.Ytejpddjdpcpepaa.X Go.Proofs.YtejpddjdpcpepaaW.PrintWords Go.Proofs.Ytejpddjdpcpepaa.Opens
open Go.ChangeMaps (open_string shut_string)
theorem own : ownKnob Try.prog.godebug = none := by kernel_rfl
theorem laidOut : laidOutB Try.prog = true := by kernel_rfl
theorem opens29 {H : Type} {enc : TypeId × Value → H} {w : World} {base : Nat} {spare : Nat → Bool} {held : Bool} : Opens enc Try.prog w base spare held 29 k29 Q29 := by
  intro fuel cs y h hw
  obtain ⟨hl, hf⟩ := field_at Try.underlying29 h hw
  obtain ⟨x0, h0, q0⟩ := hf 0 _ (Kd.int .i64) _ 0 1 rfl rfl (by kernel_rfl) (opens_int Try.underlying2)
  obtain ⟨x1, h1, q1⟩ := hf 1 _ (Kd.int .i64) _ 1 1 rfl rfl (by kernel_rfl) (opens_int Try.underlying2)
  obtain ⟨x2, h2, q2⟩ := hf 2 _ Kd.string _ 2 1 rfl rfl (by kernel_rfl) (opens_string Try.underlying9)
  obtain ⟨x3, h3, q3⟩ := hf 3 _ (Kd.int .i64) _ 3 1 rfl rfl (by kernel_rfl) (opens_int Try.underlying2)
  have hlen : cs.length = 4 := hl.trans (by kernel_rfl)
  exact ⟨⟨x0, x1, x2, x3⟩, (pair_at (o := 0) (s := 1) (o' := 1) rfl h0 (pair_at (o := 1) (s := 1) (o' := 2) rfl h1 (pair_at (o := 2) (s := 1) (o' := 3) rfl h2 (last_at (o := 3) (s := 1) (by rw [hlen]) h3)))), ⟨q0, q1, q2, q3⟩⟩
set_option maxRecDepth 100000 in
theorem lifted (os : Os) (started : os.Started) (H : Type) (enc : TypeId × Value → H) :
    ReturnsInHanded {} Try.checked os 6 .any (Rows.seqRisesSpec.pre6 enc Try.prog Try.f6 Rows.seqRisesRow.domain false) (Rows.seqRisesSpec.post enc Try.prog Try.f6 false true false false) := by
  refine returnsInHanded_of_change_sized (C := Try.checked) own started (by kernel_rfl) Try.func6
    (ChangeSpec.witness6 (enc := enc) (C := Try.checked) false ⟨#[], #[.int .i64 0, .slice none 0 0], []⟩ 8 (by kernel_rfl) (by kernel_rfl) (by kernel_rfl) (by kernel_rfl)) ?_
  intro W base args ds gs before hval0 hW hcnd hsz0 _
  have hsz : (DataW.weightsEach Try.prog (Try.f6.params.toList ++ Rows.seqRisesSpec.plain.varTypes Try.prog) (ds ++ gs)).all (· ≤ reachBytes) = true := hsz0
  have hval : ∀ (j : Nat) t v, Try.f6.params[j]? = some t → args[j]? = some v → Value.okWide Try.prog W .any base t v := hval0
  have hW' := hW
  obtain ⟨p, q, hA0, hV, rfl, hfz, hnd⟩ := hW
  have hA : DataW.TrodAll enc Try.prog W 0 (fun _ => true) true Try.f6.params.toList args.toList ds p := hA0
  rw [Try.params6] at hA hval hsz
  obtain ⟨v0, vs0, d0, ds0, p0, q0, hargs, rfl, rfl, h0, r0⟩ := trodAll_cons hA
  obtain ⟨v1, vs1, d1, ds1, p1, q1, rfl, rfl, rfl, h1, r1⟩ := trodAll_cons r0
  obtain ⟨rfl, rfl, rfl⟩ := trodAll_nil r1
  obtain rfl : args = #[v0, v1] := by cases args; simp_all
  obtain ⟨rfl, rfl⟩ := trodVars_none hV
  obtain ⟨a0, rfl, rfl, rfl, w0⟩ := open_int Try.underlying2 (hval 0 2 v0 rfl rfl) h0
  obtain ⟨a1, len1, cap1, rfl⟩ := okWide_slice Try.underlying34 (hval 1 34 v1 rfl rfl)
  have k1 := h1
  have lt1 : ∀ x ∈ p1, x.block < W.heap.size := by obtain ⟨m, hm⟩ := k1; exact DataW.trod_lt m _ _ _ hm
  have y1 := sized_any hsz (j := 1) (t := 34) (B := 24) rfl rfl Try.underlying34 (by kernel_rfl) h1
  obtain ⟨l1, rfl, hc1, hr1, w1⟩ := slice_of (opens_slice Try.underlying34 (by kernel_rfl) (opens_slice Try.underlying22 (by kernel_rfl) opens29)) h1 (weighs hsz (j := 1) (t := 34) rfl rfl)
  clear hA0 hval0 hsz0 hsz
  refine (ebbtidelaw14_SeqRises.walk Pure.SeqRises a0 l1 W _ _ hr1 hc1 w0 w1 y1).mono fun e W' ⟨he, bel⟩ => ?_
  subst he
  exact ⟨_, rfl, _, _, _, [], _, [], hW', trodAll_mk1 (shut_bool Try.underlying4 _), (trodAll_cons_mk (shut_int Try.underlying2 w0) (trodAll_cons_mk (Below.trod laidOut (by kernel_rfl) (of_decide_eq_true (by kernel_rfl)) k1 bel lt1) trodAll_mk0)), rfl, bel.frame _, fun h => by cases h⟩
theorem over : Rows.seqRisesRow.holds Try.pinned (OpenSpec.ofChange Rows.seqRisesSpec) :=
  OpenClaim.holds_of_wide 6 Try.f6 rfl rfl rfl rfl rfl rfl rfl ⟨rfl, rfl, rfl, rfl, rfl⟩ rfl rfl rfl rfl rfl (by kernel_rfl) Try.func6 (by kernel_rfl)
    (of_decide_eq_true (by kernel_rfl)) (by unfold Func.isWrapper; first | (rw [if_pos (by decide +kernel)]; kernel_rfl) | (rw [if_neg (by decide +kernel)]; exact ⟨rfl, rfl⟩))
    (fun os started H enc _ => lifted os started H enc)
theorem proved : Rows.SeqRisesSaid := over
end Go.Proofs.Ytejpddjdpcpepaa.seqRises
namespace Go.Proofs.Ytejpddjdpcpepaa
/-- The row, under a short name, for the claim. -/
theorem seqRises_holds : Rows.SeqRisesSaid := seqRises.proved
#print axioms seqRises_holds
end Go.Proofs.Ytejpddjdpcpepaa
