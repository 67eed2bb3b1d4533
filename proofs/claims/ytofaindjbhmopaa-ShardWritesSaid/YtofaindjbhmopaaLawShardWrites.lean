/- The statement ShardWrites: the program's functions that it reaches, as Lean functions, answer as it says. No condition of our own. -/
import Derived.Test.YtofaindjbhmopaaRows
import Derived.Test.YtofaindjbhmopaaM14
import Derived.Test.YtofaindjbhmopaaM15
import Derived.Test.YtofaindjbhmopaaM1
import Derived.WalkKit
import Derived.ProofKit
import Derived.OpenShut
import Derived.ShutString
import Derived.ChangeOld
import Derived.Below
import Derived.SizedLaws
namespace Go.Proofs.Ytofaindjbhmopaa.shardWrites
open Go.ChangeShapes Go.WideShapes Go.ChangeAt Go.RowKit Go.Proofs.Ytofaindjbhmopaa.X Go.Proofs.YtofaindjbhmopaaW.PrintWords Go.Proofs.Ytofaindjbhmopaa.Opens
open Go.ChangeMaps (open_string shut_string)
theorem own : ownKnob Try.prog.godebug = none := by kernel_rfl
theorem laidOut : laidOutB Try.prog = true := by kernel_rfl
theorem opens50 {H : Type} {enc : TypeId × Value → H} {w : World} {base : Nat} {spare : Nat → Bool} {held : Bool} : Opens enc Try.prog w base spare held 50 k50 Q50 := by
  intro fuel cs y h hw
  obtain ⟨hl, hf⟩ := field_at Try.underlying50 h hw
  obtain ⟨x0, h0, q0⟩ := hf 0 _ (Kd.int .i64) _ 0 1 rfl rfl (by kernel_rfl) (opens_int Try.underlying2)
  obtain ⟨x1, h1, q1⟩ := hf 1 _ Kd.bool _ 1 1 rfl rfl (by kernel_rfl) (opens_bool Try.underlying4)
  have hlen : cs.length = 2 := hl.trans (by kernel_rfl)
  exact ⟨⟨x0, x1⟩, (pair_at (o := 0) (s := 1) (o' := 1) rfl h0 (last_at (o := 1) (s := 1) (by rw [hlen]) h1)), ⟨q0, q1⟩⟩
theorem opens52 {H : Type} {enc : TypeId × Value → H} {w : World} {base : Nat} {spare : Nat → Bool} {held : Bool} : Opens enc Try.prog w base spare held 52 k52 Q52 := by
  intro fuel cs y h hw
  obtain ⟨hl, hf⟩ := field_at Try.underlying52 h hw
  obtain ⟨x0, h0, q0⟩ := hf 0 _ (Kd.int .i64) _ 0 1 rfl rfl (by kernel_rfl) (opens_int Try.underlying2)
  obtain ⟨x1, h1, q1⟩ := hf 1 _ k50 _ 1 2 rfl rfl (by kernel_rfl) opens50
  obtain ⟨x2, h2, q2⟩ := hf 2 _ (Kd.int .i64) _ 3 1 rfl rfl (by kernel_rfl) (opens_int Try.underlying2)
  obtain ⟨x3, h3, q3⟩ := hf 3 _ (Kd.int .i64) _ 4 1 rfl rfl (by kernel_rfl) (opens_int Try.underlying2)
  have hlen : cs.length = 5 := hl.trans (by kernel_rfl)
  exact ⟨⟨x0, x1, x2, x3⟩, (pair_at (o := 0) (s := 1) (o' := 1) rfl h0 (pair_at (o := 1) (s := 2) (o' := 3) rfl h1 (pair_at (o := 3) (s := 1) (o' := 4) rfl h2 (last_at (o := 4) (s := 1) (by rw [hlen]) h3)))), ⟨q0, q1, q2, q3⟩⟩
theorem opens82 {H : Type} {enc : TypeId × Value → H} {w : World} {base : Nat} {spare : Nat → Bool} {held : Bool} : Opens enc Try.prog w base spare held 82 k82 Q82 := by
  intro fuel cs y h hw
  obtain ⟨hl, hf⟩ := field_at Try.underlying82 h hw
  obtain ⟨x0, h0, q0⟩ := hf 0 _ (Kd.int .i64) _ 0 1 rfl rfl (by kernel_rfl) (opens_int Try.underlying2)
  obtain ⟨x1, h1, q1⟩ := hf 1 _ k52 _ 1 5 rfl rfl (by kernel_rfl) opens52
  have hlen : cs.length = 6 := hl.trans (by kernel_rfl)
  exact ⟨⟨x0, x1⟩, (pair_at (o := 0) (s := 1) (o' := 1) rfl h0 (last_at (o := 1) (s := 5) (by rw [hlen]) h1)), ⟨q0, q1⟩⟩
theorem opens59 {H : Type} {enc : TypeId × Value → H} {w : World} {base : Nat} {spare : Nat → Bool} {held : Bool} : Opens enc Try.prog w base spare held 59 k59 Q59 := by
  intro fuel cs y h hw
  obtain ⟨hl, hf⟩ := field_at Try.underlying59 h hw
  obtain ⟨x0, h0, q0⟩ := hf 0 _ (Kd.int .i64) _ 0 1 rfl rfl (by kernel_rfl) (opens_int Try.underlying2)
  obtain ⟨x1, h1, q1⟩ := hf 1 _ Kd.string _ 1 1 rfl rfl (by kernel_rfl) (opens_string Try.underlying9)
  obtain ⟨x2, h2, q2⟩ := hf 2 _ (Kd.slice 82 k82) _ 2 1 rfl rfl (by kernel_rfl) (opens_slice Try.underlying57 (by kernel_rfl) opens82)
  have hlen : cs.length = 3 := hl.trans (by kernel_rfl)
  exact ⟨⟨x0, x1, x2⟩, (pair_at (o := 0) (s := 1) (o' := 1) rfl h0 (pair_at (o := 1) (s := 1) (o' := 2) rfl h1 (last_at (o := 2) (s := 1) (by rw [hlen]) h2))), ⟨q0, q1, q2⟩⟩
theorem opens24 {H : Type} {enc : TypeId × Value → H} {w : World} {base : Nat} {spare : Nat → Bool} {held : Bool} : Opens enc Try.prog w base spare held 24 k24 Q24 := by
  intro fuel cs y h hw
  obtain ⟨hl, hf⟩ := field_at Try.underlying24 h hw
  obtain ⟨x0, h0, q0⟩ := hf 0 _ (Kd.slice 59 k59) _ 0 1 rfl rfl (by kernel_rfl) (opens_slice Try.underlying22 (by kernel_rfl) opens59)
  have hlen : cs.length = 1 := hl.trans (by kernel_rfl)
  exact ⟨⟨x0⟩, (last_at (o := 0) (s := 1) (by rw [hlen]) h0), q0⟩
theorem opens26 {H : Type} {enc : TypeId × Value → H} {w : World} {base : Nat} {spare : Nat → Bool} {held : Bool} : Opens enc Try.prog w base spare held 26 k26 Q26 := by
  intro fuel cs y h hw
  obtain ⟨hl, hf⟩ := field_at Try.underlying26 h hw
  obtain ⟨x0, h0, q0⟩ := hf 0 _ (Kd.int .i64) _ 0 1 rfl rfl (by kernel_rfl) (opens_int Try.underlying2)
  obtain ⟨x1, h1, q1⟩ := hf 1 _ (Kd.int .i64) _ 1 1 rfl rfl (by kernel_rfl) (opens_int Try.underlying2)
  obtain ⟨x2, h2, q2⟩ := hf 2 _ Kd.string _ 2 1 rfl rfl (by kernel_rfl) (opens_string Try.underlying9)
  obtain ⟨x3, h3, q3⟩ := hf 3 _ (Kd.int .i64) _ 3 1 rfl rfl (by kernel_rfl) (opens_int Try.underlying2)
  have hlen : cs.length = 4 := hl.trans (by kernel_rfl)
  exact ⟨⟨x0, x1, x2, x3⟩, (pair_at (o := 0) (s := 1) (o' := 1) rfl h0 (pair_at (o := 1) (s := 1) (o' := 2) rfl h1 (pair_at (o := 2) (s := 1) (o' := 3) rfl h2 (last_at (o := 3) (s := 1) (by rw [hlen]) h3)))), ⟨q0, q1, q2, q3⟩⟩
set_option maxRecDepth 100000 in
theorem lifted (os : Os) (started : os.Started) (H : Type) (enc : TypeId × Value → H) :
    ReturnsInHanded {} Try.checked os 7 .any (Rows.shardWritesSpec.pre6 enc Try.prog Try.f7 Rows.shardWritesRow.domain false) (Rows.shardWritesSpec.post enc Try.prog Try.f7 false true false false) := by
  refine returnsInHanded_of_change_sized (C := Try.checked) own started (by kernel_rfl) Try.func7
    (ChangeSpec.witness6 (enc := enc) (C := Try.checked) false ⟨#[], #[.agg #[.slice none 0 0], .agg #[.int .i64 0, .int .i64 0, .string ByteArray.empty, .int .i64 0], .int .i64 0], []⟩ 8 (by kernel_rfl) (by kernel_rfl) (by kernel_rfl) (by kernel_rfl)) ?_
  intro W base args ds gs before hval0 hW hcnd hsz0 _
  have hsz : (DataW.weightsEach Try.prog (Try.f7.params.toList ++ Rows.shardWritesSpec.plain.varTypes Try.prog) (ds ++ gs)).all (· ≤ reachBytes) = true := hsz0
  have hval : ∀ (j : Nat) t v, Try.f7.params[j]? = some t → args[j]? = some v → Value.okWide Try.prog W .any base t v := hval0
  have hW' := hW
  obtain ⟨p, q, hA0, hV, rfl, hfz, hnd⟩ := hW
  have hA : DataW.TrodAll enc Try.prog W 0 (fun _ => true) true Try.f7.params.toList args.toList ds p := hA0
  rw [Try.params7] at hA hval hsz
  obtain ⟨v0, vs0, d0, ds0, p0, q0, hargs, rfl, rfl, h0, r0⟩ := trodAll_cons hA
  obtain ⟨v1, vs1, d1, ds1, p1, q1, rfl, rfl, rfl, h1, r1⟩ := trodAll_cons r0
  obtain ⟨v2, vs2, d2, ds2, p2, q2, rfl, rfl, rfl, h2, r2⟩ := trodAll_cons r1
  obtain ⟨rfl, rfl, rfl⟩ := trodAll_nil r2
  obtain rfl : args = #[v0, v1, v2] := by cases args; simp_all
  obtain ⟨rfl, rfl⟩ := trodVars_none hV
  obtain ⟨cs0, rfl, _⟩ := okWide_struct Try.underlying24 (hval 0 24 v0 rfl rfl)
  have k0 := h0
  have lt0 : ∀ x ∈ p0, x.block < W.heap.size := by obtain ⟨m, hm⟩ := k0; exact DataW.trod_lt m _ _ _ hm
  obtain ⟨x0, hK0, w0⟩ := struct_of opens24 h0 (weighs hsz (j := 0) (t := 24) rfl rfl)
  obtain ⟨A0_0, c0_0, e0, hc0_0, hr0_0⟩ := k24_open hK0
  obtain rfl := agg_of e0
  obtain ⟨cs1, rfl, _⟩ := okWide_struct Try.underlying26 (hval 1 26 v1 rfl rfl)
  have k1 := h1
  have lt1 : ∀ x ∈ p1, x.block < W.heap.size := by obtain ⟨m, hm⟩ := k1; exact DataW.trod_lt m _ _ _ hm
  obtain ⟨x1, hK1, w1⟩ := struct_of opens26 h1 (weighs hsz (j := 1) (t := 26) rfl rfl)
  have e1 := k26_open hK1
  obtain rfl := agg_of e1
  obtain ⟨a2, rfl, rfl, rfl, w2⟩ := open_int Try.underlying2 (hval 2 2 v2 rfl rfl) h2
  clear hA0 hval0 hsz0 hsz
  refine (w11_ShardWrites.walk Pure.ShardWrites x0 x1 a2 W _ _ hr0_0 hc0_0 w0 w1 w2).mono fun e W' ⟨he, bel⟩ => ?_
  subst he
  exact ⟨_, rfl, _, _, _, [], _, [], hW', trodAll_mk1 (shut_bool Try.underlying4 _), (trodAll_cons_mk (Below.trod laidOut (by kernel_rfl) (of_decide_eq_true (by kernel_rfl)) k0 bel lt0) (trodAll_cons_mk (Below.trod laidOut (by kernel_rfl) (of_decide_eq_true (by kernel_rfl)) k1 bel lt1) (trodAll_cons_mk (shut_int Try.underlying2 w2) trodAll_mk0))), rfl, bel.frame _, fun h => by cases h⟩
theorem over : Rows.shardWritesRow.holds Try.pinned (OpenSpec.ofChange Rows.shardWritesSpec) :=
  OpenClaim.holds_of_wide 7 Try.f7 rfl rfl rfl rfl rfl rfl rfl ⟨rfl, rfl, rfl, rfl, rfl⟩ rfl rfl rfl rfl rfl (by kernel_rfl) Try.func7 (by kernel_rfl)
    (of_decide_eq_true (by kernel_rfl)) (by unfold Func.isWrapper; first | (rw [if_pos (by decide +kernel)]; kernel_rfl) | (rw [if_neg (by decide +kernel)]; exact ⟨rfl, rfl⟩))
    (fun os started H enc _ => lifted os started H enc)
theorem proved : Rows.ShardWritesSaid := over
end Go.Proofs.Ytofaindjbhmopaa.shardWrites
namespace Go.Proofs.Ytofaindjbhmopaa
/-- The row, under a short name, for the claim. -/
theorem shardWrites_holds : Rows.ShardWritesSaid := shardWrites.proved
#print axioms shardWrites_holds
end Go.Proofs.Ytofaindjbhmopaa
