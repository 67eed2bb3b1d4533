/- Printed by a program of this session's own: what functions of the program compute, and that the machine computes it. -/
import Derived.Test.YtklhjponikgkkaaXx0
import Derived.Test.YtklhjponikgkkaaXx3
import Derived.Test.YtklhjponikgkkaaXx5
import Derived.Test.YtklhjponikgkkaaXx6
import Derived.Test.YtklhjponikgkkaaXx10
import Derived.Test.YtklhjponikgkkaaXx11
import Derived.Test.YtklhjponikgkkaaXxS
namespace Go.Proofs.Ytklhjponikgkkaa.X
open Go.RowKit Go.Proofs.YtklhjponikgkkaaW.PrintWords Go.Proofs.YtklhjponikgkkaaW.PrintLast Go.Proofs.YtklhjponikgkkaaW.PrintMore
attribute [local go_sem] max2_int min2_int max_two min_two max_three min_three max_four min_four   -- for this text's walks alone
set_option linter.unusedVariables false
set_option linter.unusedSimpArgs false

/-! ### ebbtidelaw17_alive: function 7 -/
def ebbtidelaw17_alive.f (k : Nat)  : Option (Bool) := (ebbtideref11_Apply.f k ([] : List (S70)) 1 2 (⟨#[99, 112, 117]⟩ : ByteArray) 3).bind fun bt270 => ((emit_Next.f k 0 0 10 5 0 35 ([] : List (S46)) ([] : List (List (S61))) (([(⟨bt270.1⟩ : S50)] : List (S50)))).bind fun bt278 => ((emit_Next.f k 0 0 10 5 0 34 ([] : List (S46)) ([] : List (List (S61))) (([(⟨bt270.1⟩ : S50)] : List (S50)))).bind fun bt283 => ((emit_Next.f k 0 0 10 5 0 35 (([(⟨2, 0⟩ : S46)] : List (S46))) ([] : List (List (S61))) (([(⟨bt270.1⟩ : S50)] : List (S50)))).bind fun bt291 => ((emit_Next.f k 0 0 10 5 0 35 ([] : List (S46)) (([(([(⟨0, 2, (⟨#[]⟩ : ByteArray), 0⟩ : S61)] : List (S61)))] : List (List (S61)))) (([(⟨bt270.1⟩ : S50)] : List (S50)))).bind fun bt302 => ((emit_Take.f k 2 9 (([(⟨([] : List (S70))⟩ : S50), (⟨bt270.1⟩ : S50)] : List (S50)))).bind fun bt307 => (if bt278.2 = true then (if bt278.1 = 2 then (if bt283.2 = true then (none) else (if bt291.2 = true then (none) else (if bt302.2 = true then (none) else (if bt307.1 = 2 then (if bt307.2.1 = 9 then ((ebbtideref06_Of.f k (([3] : List Int))).bind fun bt316 => ((ebbtideref08_Items.f k bt307.2.2 (([(⟨2, (⟨#[99, 112, 117]⟩ : ByteArray), (⟨bt316.1, (⟨bt316.2.1, bt316.2.2.1⟩ : S52), bt316.2.2.2.1, bt316.2.2.2.2⟩ : S54)⟩ : S56)] : List (S56)))).bind fun t324 => (if t324 = true then ((emit_Same.f k bt307.1 bt307.2.1 bt307.2.2 bt307.1 bt307.2.1 bt307.2.2).bind fun t325 => (if t325 = true then ((emit_Same.f k bt307.1 bt307.2.1 bt307.2.2 0 0 ([] : List (S56))).bind fun t326 => (some (!t326))) else (none))) else (none)))) else (none)) else (none))))) else (none)) else (none)))))))
theorem ebbtidelaw17_alive.mono : ∀ k, LeO (ebbtidelaw17_alive.f k ) (ebbtidelaw17_alive.f (k + 1) ) := by
 intro  k
 unfold ebbtidelaw17_alive.f
 repeat' first
  | (with_reducible exact ebbtideref06_Of.mono _ _)
  | (with_reducible exact ebbtideref08_Items.mono _ _ _)
  | (with_reducible exact ebbtideref11_Apply.mono _ _ _ _ _ _)
  | (with_reducible exact emit_Next.mono _ _ _ _ _ _ _ _ _ _)
  | (with_reducible exact emit_Same.mono _ _ _ _ _ _ _)
  | (with_reducible exact emit_Take.mono _ _ _ _)
  | (with_reducible exact LeO.refl _)
  | (with_reducible exact LeO.none _)
  | (with_reducible refine LeO.ite ?_ ?_)
  | (with_reducible refine LeO.bind ?_ (fun _ => ?_))
  | exact ebbtideref06_Of.mono _ _
  | exact ebbtideref08_Items.mono _ _ _
  | exact ebbtideref11_Apply.mono _ _ _ _ _ _
  | exact emit_Next.mono _ _ _ _ _ _ _ _ _ _
  | exact emit_Same.mono _ _ _ _ _ _ _
  | exact emit_Take.mono _ _ _ _
  | exact LeO.none _
  | refine LeO.ite ?_ ?_
  | refine LeO.bind ?_ (fun _ => ?_)
def ebbtidelaw17_alive.T8 : Bool × List (List Nat × List Nat) := (true, [([], []), ([0], [0]), ([1], [1]), ([2, 1], [1, 2]), ([1, 3], [1, 3]), ([4, 1], [4]), ([5], [5]), ([6, 5], [5, 6]), ([5, 7], [5, 7]), ([8, 5], [8]), ([9], [9]), ([10, 9], [9, 10]), ([9, 11], [9, 11]), ([12, 9], [12]), ([13], [13]), ([14, 13], [13, 14]), ([13, 15], [13, 15]), ([16, 13], [16]), ([17], [17]), ([18, 17], [17, 18]), ([19, 17], [17, 19]), ([17, 20], [17, 20]), ([21, 17], [21]), ([22], [22]), ([23, 22], [22, 23]), ([24, 22], [22, 24]), ([22, 25], [22, 25]), ([26, 22], [26]), ([27], [27]), ([28, 27], [27, 28]), ([27], [27]), ([30, 27, 27], [27, 30]), ([31, 27], [27, 31]), ([32, 27], [27, 32]), ([29, 33, 31, 27], [27, 29, 33]), ([27, 34], [27, 34]), ([35, 34], [35]), ([36], [36]), ([36], [36]), ([37, 38, 36, 36], [36, 37, 38]), ([36, 39], [36, 39]), ([40, 39], [40]), ([41], [41]), ([41], [41]), ([42, 43, 41, 41], [41, 42, 43]), ([44, 41], [41, 44]), ([41, 45], [41, 45]), ([46, 44, 0, 1, 2, 3, 4, 5, 6, 7, 8, 9, 10, 11, 12, 13, 14, 15, 16, 17, 18, 19, 20, 21, 22, 23, 24, 25, 26, 27, 28, 29, 30, 31, 32, 33, 34, 35, 36, 37, 38, 39, 40, 41, 42, 43, 44, 45, 46], [46])])
def ebbtidelaw17_alive.B8 : List Nat := [0, 1, 3, 7, 15, 31, 63, 127, 255, 511, 1023, 2047, 4095, 8191, 16383, 32767, 65535, 131071, 262143, 524287, 1048575, 2097151, 4194303, 8388607, 16777215, 33554431, 67108863, 134217727, 268435455, 536870911, 268435455, 1342177279, 3489660927, 7784628223, 17179869183, 34359738367, 68719476735, 137438953471, 137438953471, 549755813887, 1099511627775, 2199023255551, 4398046511103, 4398046511103, 17592186044415, 35184372088831, 70368744177663, 140737488355327]
theorem ebbtidelaw17_alive.tab8 : rtab .any (opsOf Try.f7 8) = ebbtidelaw17_alive.T8 := by kernel_rfl
theorem ebbtidelaw17_alive.bits8 : waitsOk ebbtidelaw17_alive.T8.2 ebbtidelaw17_alive.B8 = true := by kernel_rfl
set_option maxHeartbeats 8000000 in
set_option maxRecDepth 100000 in
theorem ebbtidelaw17_alive.calls (k : Nat)  (r : Bool) (w : World) (h : ebbtidelaw17_alive.f k  = some r) :
 Calls Try.prog 7 #[] w fun e w' => e = .returned (.bool r) ∧ Below w.heap.size w w' := by
 have hu23 := Try.underlying23
 have hu50 := Try.underlying50
 have hu61 := Try.underlying61
 have hu46 := Try.underlying46
 have hu38 := Try.underlying38
 have hu56 := Try.underlying56
 have HB := Aside0.mk (Below.refl w.heap.size w)
 have H : ((ebbtideref11_Apply.f k ([] : List (S70)) 1 2 (⟨#[99, 112, 117]⟩ : ByteArray) 3).bind fun bt270 => ((emit_Next.f k 0 0 10 5 0 35 ([] : List (S46)) ([] : List (List (S61))) (([(⟨bt270.1⟩ : S50)] : List (S50)))).bind fun bt278 => ((emit_Next.f k 0 0 10 5 0 34 ([] : List (S46)) ([] : List (List (S61))) (([(⟨bt270.1⟩ : S50)] : List (S50)))).bind fun bt283 => ((emit_Next.f k 0 0 10 5 0 35 (([(⟨2, 0⟩ : S46)] : List (S46))) ([] : List (List (S61))) (([(⟨bt270.1⟩ : S50)] : List (S50)))).bind fun bt291 => ((emit_Next.f k 0 0 10 5 0 35 ([] : List (S46)) (([(([(⟨0, 2, (⟨#[]⟩ : ByteArray), 0⟩ : S61)] : List (S61)))] : List (List (S61)))) (([(⟨bt270.1⟩ : S50)] : List (S50)))).bind fun bt302 => ((emit_Take.f k 2 9 (([(⟨([] : List (S70))⟩ : S50), (⟨bt270.1⟩ : S50)] : List (S50)))).bind fun bt307 => (if bt278.2 = true then (if bt278.1 = 2 then (if bt283.2 = true then (none) else (if bt291.2 = true then (none) else (if bt302.2 = true then (none) else (if bt307.1 = 2 then (if bt307.2.1 = 9 then ((ebbtideref06_Of.f k (([3] : List Int))).bind fun bt316 => ((ebbtideref08_Items.f k bt307.2.2 (([(⟨2, (⟨#[99, 112, 117]⟩ : ByteArray), (⟨bt316.1, (⟨bt316.2.1, bt316.2.2.1⟩ : S52), bt316.2.2.2.1, bt316.2.2.2.2⟩ : S54)⟩ : S56)] : List (S56)))).bind fun t324 => (if t324 = true then ((emit_Same.f k bt307.1 bt307.2.1 bt307.2.2 bt307.1 bt307.2.1 bt307.2.2).bind fun t325 => (if t325 = true then ((emit_Same.f k bt307.1 bt307.2.1 bt307.2.2 0 0 ([] : List (S56))).bind fun t326 => (some (!t326))) else (none))) else (none)))) else (none)) else (none))))) else (none)) else (none)))))))) = some r := h
 clear h
 replace H := Option.bind_eq_some_iff.mp H
 obtain ⟨⟨t270, t273⟩, A10, H⟩ := H
 replace H : ((emit_Next.f k 0 0 10 5 0 35 ([] : List (S46)) ([] : List (List (S61))) (([(⟨t270⟩ : S50)] : List (S50)))).bind fun bt278 => ((emit_Next.f k 0 0 10 5 0 34 ([] : List (S46)) ([] : List (List (S61))) (([(⟨t270⟩ : S50)] : List (S50)))).bind fun bt283 => ((emit_Next.f k 0 0 10 5 0 35 (([(⟨2, 0⟩ : S46)] : List (S46))) ([] : List (List (S61))) (([(⟨t270⟩ : S50)] : List (S50)))).bind fun bt291 => ((emit_Next.f k 0 0 10 5 0 35 ([] : List (S46)) (([(([(⟨0, 2, (⟨#[]⟩ : ByteArray), 0⟩ : S61)] : List (S61)))] : List (List (S61)))) (([(⟨t270⟩ : S50)] : List (S50)))).bind fun bt302 => ((emit_Take.f k 2 9 (([(⟨([] : List (S70))⟩ : S50), (⟨t270⟩ : S50)] : List (S50)))).bind fun bt307 => (if bt278.2 = true then (if bt278.1 = 2 then (if bt283.2 = true then (none) else (if bt291.2 = true then (none) else (if bt302.2 = true then (none) else (if bt307.1 = 2 then (if bt307.2.1 = 9 then ((ebbtideref06_Of.f k (([3] : List Int))).bind fun bt316 => ((ebbtideref08_Items.f k bt307.2.2 (([(⟨2, (⟨#[99, 112, 117]⟩ : ByteArray), (⟨bt316.1, (⟨bt316.2.1, bt316.2.2.1⟩ : S52), bt316.2.2.2.1, bt316.2.2.2.2⟩ : S54)⟩ : S56)] : List (S56)))).bind fun t324 => (if t324 = true then ((emit_Same.f k bt307.1 bt307.2.1 bt307.2.2 bt307.1 bt307.2.1 bt307.2.2).bind fun t325 => (if t325 = true then ((emit_Same.f k bt307.1 bt307.2.1 bt307.2.2 0 0 ([] : List (S56))).bind fun t326 => (some (!t326))) else (none))) else (none)))) else (none)) else (none))))) else (none)) else (none))))))) = some r := H
 have A1 := Aside0.mk A10
 clear A10
 obtain ⟨y275, hy275⟩ : ∃ y_ : List (S50), y_ = (([(⟨t270⟩ : S50)] : List (S50))) := ⟨_, rfl⟩
 replace H : ((emit_Next.f k 0 0 10 5 0 35 ([] : List (S46)) ([] : List (List (S61))) y275).bind fun bt278 => ((emit_Next.f k 0 0 10 5 0 34 ([] : List (S46)) ([] : List (List (S61))) (([(⟨t270⟩ : S50)] : List (S50)))).bind fun bt283 => ((emit_Next.f k 0 0 10 5 0 35 (([(⟨2, 0⟩ : S46)] : List (S46))) ([] : List (List (S61))) (([(⟨t270⟩ : S50)] : List (S50)))).bind fun bt291 => ((emit_Next.f k 0 0 10 5 0 35 ([] : List (S46)) (([(([(⟨0, 2, (⟨#[]⟩ : ByteArray), 0⟩ : S61)] : List (S61)))] : List (List (S61)))) (([(⟨t270⟩ : S50)] : List (S50)))).bind fun bt302 => ((emit_Take.f k 2 9 (([(⟨([] : List (S70))⟩ : S50), (⟨t270⟩ : S50)] : List (S50)))).bind fun bt307 => (if bt278.2 = true then (if bt278.1 = 2 then (if bt283.2 = true then (none) else (if bt291.2 = true then (none) else (if bt302.2 = true then (none) else (if bt307.1 = 2 then (if bt307.2.1 = 9 then ((ebbtideref06_Of.f k (([3] : List Int))).bind fun bt316 => ((ebbtideref08_Items.f k bt307.2.2 (([(⟨2, (⟨#[99, 112, 117]⟩ : ByteArray), (⟨bt316.1, (⟨bt316.2.1, bt316.2.2.1⟩ : S52), bt316.2.2.2.1, bt316.2.2.2.2⟩ : S54)⟩ : S56)] : List (S56)))).bind fun t324 => (if t324 = true then ((emit_Same.f k bt307.1 bt307.2.1 bt307.2.2 bt307.1 bt307.2.1 bt307.2.2).bind fun t325 => (if t325 = true then ((emit_Same.f k bt307.1 bt307.2.1 bt307.2.2 0 0 ([] : List (S56))).bind fun t326 => (some (!t326))) else (none))) else (none)))) else (none)) else (none))))) else (none)) else (none))))))) = some r := by first | (rw [hy275]; with_reducible exact H) | (have H2_ := (Option.bind_some _ _).symm.trans H; rw [hy275]; with_reducible exact H2_) | (have H2_ := (Option.bind_some _ _).symm.trans H; with_reducible exact H2_) | with_reducible exact H | (rw [hy275]; exact H) | exact H
 have Ny275 := Aside0.mk hy275
 clear hy275
 replace H := Option.bind_eq_some_iff.mp H
 obtain ⟨⟨t278, t279⟩, A20, H⟩ := H
 replace H : ((emit_Next.f k 0 0 10 5 0 34 ([] : List (S46)) ([] : List (List (S61))) (([(⟨t270⟩ : S50)] : List (S50)))).bind fun bt283 => ((emit_Next.f k 0 0 10 5 0 35 (([(⟨2, 0⟩ : S46)] : List (S46))) ([] : List (List (S61))) (([(⟨t270⟩ : S50)] : List (S50)))).bind fun bt291 => ((emit_Next.f k 0 0 10 5 0 35 ([] : List (S46)) (([(([(⟨0, 2, (⟨#[]⟩ : ByteArray), 0⟩ : S61)] : List (S61)))] : List (List (S61)))) (([(⟨t270⟩ : S50)] : List (S50)))).bind fun bt302 => ((emit_Take.f k 2 9 (([(⟨([] : List (S70))⟩ : S50), (⟨t270⟩ : S50)] : List (S50)))).bind fun bt307 => (if t279 = true then (if t278 = 2 then (if bt283.2 = true then (none) else (if bt291.2 = true then (none) else (if bt302.2 = true then (none) else (if bt307.1 = 2 then (if bt307.2.1 = 9 then ((ebbtideref06_Of.f k (([3] : List Int))).bind fun bt316 => ((ebbtideref08_Items.f k bt307.2.2 (([(⟨2, (⟨#[99, 112, 117]⟩ : ByteArray), (⟨bt316.1, (⟨bt316.2.1, bt316.2.2.1⟩ : S52), bt316.2.2.2.1, bt316.2.2.2.2⟩ : S54)⟩ : S56)] : List (S56)))).bind fun t324 => (if t324 = true then ((emit_Same.f k bt307.1 bt307.2.1 bt307.2.2 bt307.1 bt307.2.1 bt307.2.2).bind fun t325 => (if t325 = true then ((emit_Same.f k bt307.1 bt307.2.1 bt307.2.2 0 0 ([] : List (S56))).bind fun t326 => (some (!t326))) else (none))) else (none)))) else (none)) else (none))))) else (none)) else (none)))))) = some r := H
 have A2 := Aside0.mk A20
 clear A20
 obtain ⟨y280, hy280⟩ : ∃ y_ : List (S50), y_ = (([(⟨t270⟩ : S50)] : List (S50))) := ⟨_, rfl⟩
 replace H : ((emit_Next.f k 0 0 10 5 0 34 ([] : List (S46)) ([] : List (List (S61))) y280).bind fun bt283 => ((emit_Next.f k 0 0 10 5 0 35 (([(⟨2, 0⟩ : S46)] : List (S46))) ([] : List (List (S61))) (([(⟨t270⟩ : S50)] : List (S50)))).bind fun bt291 => ((emit_Next.f k 0 0 10 5 0 35 ([] : List (S46)) (([(([(⟨0, 2, (⟨#[]⟩ : ByteArray), 0⟩ : S61)] : List (S61)))] : List (List (S61)))) (([(⟨t270⟩ : S50)] : List (S50)))).bind fun bt302 => ((emit_Take.f k 2 9 (([(⟨([] : List (S70))⟩ : S50), (⟨t270⟩ : S50)] : List (S50)))).bind fun bt307 => (if t279 = true then (if t278 = 2 then (if bt283.2 = true then (none) else (if bt291.2 = true then (none) else (if bt302.2 = true then (none) else (if bt307.1 = 2 then (if bt307.2.1 = 9 then ((ebbtideref06_Of.f k (([3] : List Int))).bind fun bt316 => ((ebbtideref08_Items.f k bt307.2.2 (([(⟨2, (⟨#[99, 112, 117]⟩ : ByteArray), (⟨bt316.1, (⟨bt316.2.1, bt316.2.2.1⟩ : S52), bt316.2.2.2.1, bt316.2.2.2.2⟩ : S54)⟩ : S56)] : List (S56)))).bind fun t324 => (if t324 = true then ((emit_Same.f k bt307.1 bt307.2.1 bt307.2.2 bt307.1 bt307.2.1 bt307.2.2).bind fun t325 => (if t325 = true then ((emit_Same.f k bt307.1 bt307.2.1 bt307.2.2 0 0 ([] : List (S56))).bind fun t326 => (some (!t326))) else (none))) else (none)))) else (none)) else (none))))) else (none)) else (none)))))) = some r := by first | (rw [hy280]; with_reducible exact H) | (have H2_ := (Option.bind_some _ _).symm.trans H; rw [hy280]; with_reducible exact H2_) | (have H2_ := (Option.bind_some _ _).symm.trans H; with_reducible exact H2_) | with_reducible exact H | (rw [hy280]; exact H) | exact H
 have Ny280 := Aside0.mk hy280
 clear hy280
 replace H := Option.bind_eq_some_iff.mp H
 obtain ⟨⟨t283, t284⟩, A30, H⟩ := H
 replace H : ((emit_Next.f k 0 0 10 5 0 35 (([(⟨2, 0⟩ : S46)] : List (S46))) ([] : List (List (S61))) (([(⟨t270⟩ : S50)] : List (S50)))).bind fun bt291 => ((emit_Next.f k 0 0 10 5 0 35 ([] : List (S46)) (([(([(⟨0, 2, (⟨#[]⟩ : ByteArray), 0⟩ : S61)] : List (S61)))] : List (List (S61)))) (([(⟨t270⟩ : S50)] : List (S50)))).bind fun bt302 => ((emit_Take.f k 2 9 (([(⟨([] : List (S70))⟩ : S50), (⟨t270⟩ : S50)] : List (S50)))).bind fun bt307 => (if t279 = true then (if t278 = 2 then (if t284 = true then (none) else (if bt291.2 = true then (none) else (if bt302.2 = true then (none) else (if bt307.1 = 2 then (if bt307.2.1 = 9 then ((ebbtideref06_Of.f k (([3] : List Int))).bind fun bt316 => ((ebbtideref08_Items.f k bt307.2.2 (([(⟨2, (⟨#[99, 112, 117]⟩ : ByteArray), (⟨bt316.1, (⟨bt316.2.1, bt316.2.2.1⟩ : S52), bt316.2.2.2.1, bt316.2.2.2.2⟩ : S54)⟩ : S56)] : List (S56)))).bind fun t324 => (if t324 = true then ((emit_Same.f k bt307.1 bt307.2.1 bt307.2.2 bt307.1 bt307.2.1 bt307.2.2).bind fun t325 => (if t325 = true then ((emit_Same.f k bt307.1 bt307.2.1 bt307.2.2 0 0 ([] : List (S56))).bind fun t326 => (some (!t326))) else (none))) else (none)))) else (none)) else (none))))) else (none)) else (none))))) = some r := H
 have A3 := Aside0.mk A30
 clear A30
 obtain ⟨y285, hy285⟩ : ∃ y_ : List (S46), y_ = (([(⟨2, 0⟩ : S46)] : List (S46))) := ⟨_, rfl⟩
 replace H : ((emit_Next.f k 0 0 10 5 0 35 y285 ([] : List (List (S61))) (([(⟨t270⟩ : S50)] : List (S50)))).bind fun bt291 => ((emit_Next.f k 0 0 10 5 0 35 ([] : List (S46)) (([(([(⟨0, 2, (⟨#[]⟩ : ByteArray), 0⟩ : S61)] : List (S61)))] : List (List (S61)))) (([(⟨t270⟩ : S50)] : List (S50)))).bind fun bt302 => ((emit_Take.f k 2 9 (([(⟨([] : List (S70))⟩ : S50), (⟨t270⟩ : S50)] : List (S50)))).bind fun bt307 => (if t279 = true then (if t278 = 2 then (if t284 = true then (none) else (if bt291.2 = true then (none) else (if bt302.2 = true then (none) else (if bt307.1 = 2 then (if bt307.2.1 = 9 then ((ebbtideref06_Of.f k (([3] : List Int))).bind fun bt316 => ((ebbtideref08_Items.f k bt307.2.2 (([(⟨2, (⟨#[99, 112, 117]⟩ : ByteArray), (⟨bt316.1, (⟨bt316.2.1, bt316.2.2.1⟩ : S52), bt316.2.2.2.1, bt316.2.2.2.2⟩ : S54)⟩ : S56)] : List (S56)))).bind fun t324 => (if t324 = true then ((emit_Same.f k bt307.1 bt307.2.1 bt307.2.2 bt307.1 bt307.2.1 bt307.2.2).bind fun t325 => (if t325 = true then ((emit_Same.f k bt307.1 bt307.2.1 bt307.2.2 0 0 ([] : List (S56))).bind fun t326 => (some (!t326))) else (none))) else (none)))) else (none)) else (none))))) else (none)) else (none))))) = some r := by first | (rw [hy285]; with_reducible exact H) | (have H2_ := (Option.bind_some _ _).symm.trans H; rw [hy285]; with_reducible exact H2_) | (have H2_ := (Option.bind_some _ _).symm.trans H; with_reducible exact H2_) | with_reducible exact H | (rw [hy285]; exact H) | exact H
 have Ny285 := Aside0.mk hy285
 clear hy285
 obtain ⟨y288, hy288⟩ : ∃ y_ : List (S50), y_ = (([(⟨t270⟩ : S50)] : List (S50))) := ⟨_, rfl⟩
 replace H : ((emit_Next.f k 0 0 10 5 0 35 y285 ([] : List (List (S61))) y288).bind fun bt291 => ((emit_Next.f k 0 0 10 5 0 35 ([] : List (S46)) (([(([(⟨0, 2, (⟨#[]⟩ : ByteArray), 0⟩ : S61)] : List (S61)))] : List (List (S61)))) (([(⟨t270⟩ : S50)] : List (S50)))).bind fun bt302 => ((emit_Take.f k 2 9 (([(⟨([] : List (S70))⟩ : S50), (⟨t270⟩ : S50)] : List (S50)))).bind fun bt307 => (if t279 = true then (if t278 = 2 then (if t284 = true then (none) else (if bt291.2 = true then (none) else (if bt302.2 = true then (none) else (if bt307.1 = 2 then (if bt307.2.1 = 9 then ((ebbtideref06_Of.f k (([3] : List Int))).bind fun bt316 => ((ebbtideref08_Items.f k bt307.2.2 (([(⟨2, (⟨#[99, 112, 117]⟩ : ByteArray), (⟨bt316.1, (⟨bt316.2.1, bt316.2.2.1⟩ : S52), bt316.2.2.2.1, bt316.2.2.2.2⟩ : S54)⟩ : S56)] : List (S56)))).bind fun t324 => (if t324 = true then ((emit_Same.f k bt307.1 bt307.2.1 bt307.2.2 bt307.1 bt307.2.1 bt307.2.2).bind fun t325 => (if t325 = true then ((emit_Same.f k bt307.1 bt307.2.1 bt307.2.2 0 0 ([] : List (S56))).bind fun t326 => (some (!t326))) else (none))) else (none)))) else (none)) else (none))))) else (none)) else (none))))) = some r := by first | (rw [hy288]; with_reducible exact H) | (have H2_ := (Option.bind_some _ _).symm.trans H; rw [hy288]; with_reducible exact H2_) | (have H2_ := (Option.bind_some _ _).symm.trans H; with_reducible exact H2_) | with_reducible exact H | (rw [hy288]; exact H) | exact H
 have Ny288 := Aside0.mk hy288
 clear hy288
 replace H := Option.bind_eq_some_iff.mp H
 obtain ⟨⟨t291, t292⟩, A40, H⟩ := H
 replace H : ((emit_Next.f k 0 0 10 5 0 35 ([] : List (S46)) (([(([(⟨0, 2, (⟨#[]⟩ : ByteArray), 0⟩ : S61)] : List (S61)))] : List (List (S61)))) (([(⟨t270⟩ : S50)] : List (S50)))).bind fun bt302 => ((emit_Take.f k 2 9 (([(⟨([] : List (S70))⟩ : S50), (⟨t270⟩ : S50)] : List (S50)))).bind fun bt307 => (if t279 = true then (if t278 = 2 then (if t284 = true then (none) else (if t292 = true then (none) else (if bt302.2 = true then (none) else (if bt307.1 = 2 then (if bt307.2.1 = 9 then ((ebbtideref06_Of.f k (([3] : List Int))).bind fun bt316 => ((ebbtideref08_Items.f k bt307.2.2 (([(⟨2, (⟨#[99, 112, 117]⟩ : ByteArray), (⟨bt316.1, (⟨bt316.2.1, bt316.2.2.1⟩ : S52), bt316.2.2.2.1, bt316.2.2.2.2⟩ : S54)⟩ : S56)] : List (S56)))).bind fun t324 => (if t324 = true then ((emit_Same.f k bt307.1 bt307.2.1 bt307.2.2 bt307.1 bt307.2.1 bt307.2.2).bind fun t325 => (if t325 = true then ((emit_Same.f k bt307.1 bt307.2.1 bt307.2.2 0 0 ([] : List (S56))).bind fun t326 => (some (!t326))) else (none))) else (none)))) else (none)) else (none))))) else (none)) else (none)))) = some r := H
 have A4 := Aside0.mk A40
 clear A40
 obtain ⟨y293, hy293⟩ : ∃ y_ : List (S61), y_ = (([(⟨0, 2, (⟨#[]⟩ : ByteArray), 0⟩ : S61)] : List (S61))) := ⟨_, rfl⟩
 replace H : ((emit_Next.f k 0 0 10 5 0 35 ([] : List (S46)) (([y293] : List (List (S61)))) (([(⟨t270⟩ : S50)] : List (S50)))).bind fun bt302 => ((emit_Take.f k 2 9 (([(⟨([] : List (S70))⟩ : S50), (⟨t270⟩ : S50)] : List (S50)))).bind fun bt307 => (if t279 = true then (if t278 = 2 then (if t284 = true then (none) else (if t292 = true then (none) else (if bt302.2 = true then (none) else (if bt307.1 = 2 then (if bt307.2.1 = 9 then ((ebbtideref06_Of.f k (([3] : List Int))).bind fun bt316 => ((ebbtideref08_Items.f k bt307.2.2 (([(⟨2, (⟨#[99, 112, 117]⟩ : ByteArray), (⟨bt316.1, (⟨bt316.2.1, bt316.2.2.1⟩ : S52), bt316.2.2.2.1, bt316.2.2.2.2⟩ : S54)⟩ : S56)] : List (S56)))).bind fun t324 => (if t324 = true then ((emit_Same.f k bt307.1 bt307.2.1 bt307.2.2 bt307.1 bt307.2.1 bt307.2.2).bind fun t325 => (if t325 = true then ((emit_Same.f k bt307.1 bt307.2.1 bt307.2.2 0 0 ([] : List (S56))).bind fun t326 => (some (!t326))) else (none))) else (none)))) else (none)) else (none))))) else (none)) else (none)))) = some r := by first | (rw [hy293]; with_reducible exact H) | (have H2_ := (Option.bind_some _ _).symm.trans H; rw [hy293]; with_reducible exact H2_) | (have H2_ := (Option.bind_some _ _).symm.trans H; with_reducible exact H2_) | with_reducible exact H | (rw [hy293]; exact H) | exact H
 have Ny293 := Aside0.mk hy293
 clear hy293
 obtain ⟨y296, hy296⟩ : ∃ y_ : List (List (S61)), y_ = (([y293] : List (List (S61)))) := ⟨_, rfl⟩
 replace H : ((emit_Next.f k 0 0 10 5 0 35 ([] : List (S46)) y296 (([(⟨t270⟩ : S50)] : List (S50)))).bind fun bt302 => ((emit_Take.f k 2 9 (([(⟨([] : List (S70))⟩ : S50), (⟨t270⟩ : S50)] : List (S50)))).bind fun bt307 => (if t279 = true then (if t278 = 2 then (if t284 = true then (none) else (if t292 = true then (none) else (if bt302.2 = true then (none) else (if bt307.1 = 2 then (if bt307.2.1 = 9 then ((ebbtideref06_Of.f k (([3] : List Int))).bind fun bt316 => ((ebbtideref08_Items.f k bt307.2.2 (([(⟨2, (⟨#[99, 112, 117]⟩ : ByteArray), (⟨bt316.1, (⟨bt316.2.1, bt316.2.2.1⟩ : S52), bt316.2.2.2.1, bt316.2.2.2.2⟩ : S54)⟩ : S56)] : List (S56)))).bind fun t324 => (if t324 = true then ((emit_Same.f k bt307.1 bt307.2.1 bt307.2.2 bt307.1 bt307.2.1 bt307.2.2).bind fun t325 => (if t325 = true then ((emit_Same.f k bt307.1 bt307.2.1 bt307.2.2 0 0 ([] : List (S56))).bind fun t326 => (some (!t326))) else (none))) else (none)))) else (none)) else (none))))) else (none)) else (none)))) = some r := by first | (rw [hy296]; with_reducible exact H) | (have H2_ := (Option.bind_some _ _).symm.trans H; rw [hy296]; with_reducible exact H2_) | (have H2_ := (Option.bind_some _ _).symm.trans H; with_reducible exact H2_) | with_reducible exact H | (rw [hy296]; exact H) | exact H
 have Ny296 := Aside0.mk hy296
 clear hy296
 obtain ⟨y299, hy299⟩ : ∃ y_ : List (S50), y_ = (([(⟨t270⟩ : S50)] : List (S50))) := ⟨_, rfl⟩
 replace H : ((emit_Next.f k 0 0 10 5 0 35 ([] : List (S46)) y296 y299).bind fun bt302 => ((emit_Take.f k 2 9 (([(⟨([] : List (S70))⟩ : S50), (⟨t270⟩ : S50)] : List (S50)))).bind fun bt307 => (if t279 = true then (if t278 = 2 then (if t284 = true then (none) else (if t292 = true then (none) else (if bt302.2 = true then (none) else (if bt307.1 = 2 then (if bt307.2.1 = 9 then ((ebbtideref06_Of.f k (([3] : List Int))).bind fun bt316 => ((ebbtideref08_Items.f k bt307.2.2 (([(⟨2, (⟨#[99, 112, 117]⟩ : ByteArray), (⟨bt316.1, (⟨bt316.2.1, bt316.2.2.1⟩ : S52), bt316.2.2.2.1, bt316.2.2.2.2⟩ : S54)⟩ : S56)] : List (S56)))).bind fun t324 => (if t324 = true then ((emit_Same.f k bt307.1 bt307.2.1 bt307.2.2 bt307.1 bt307.2.1 bt307.2.2).bind fun t325 => (if t325 = true then ((emit_Same.f k bt307.1 bt307.2.1 bt307.2.2 0 0 ([] : List (S56))).bind fun t326 => (some (!t326))) else (none))) else (none)))) else (none)) else (none))))) else (none)) else (none)))) = some r := by first | (rw [hy299]; with_reducible exact H) | (have H2_ := (Option.bind_some _ _).symm.trans H; rw [hy299]; with_reducible exact H2_) | (have H2_ := (Option.bind_some _ _).symm.trans H; with_reducible exact H2_) | with_reducible exact H | (rw [hy299]; exact H) | exact H
 have Ny299 := Aside0.mk hy299
 clear hy299
 replace H := Option.bind_eq_some_iff.mp H
 obtain ⟨⟨t302, t303⟩, A50, H⟩ := H
 replace H : ((emit_Take.f k 2 9 (([(⟨([] : List (S70))⟩ : S50), (⟨t270⟩ : S50)] : List (S50)))).bind fun bt307 => (if t279 = true then (if t278 = 2 then (if t284 = true then (none) else (if t292 = true then (none) else (if t303 = true then (none) else (if bt307.1 = 2 then (if bt307.2.1 = 9 then ((ebbtideref06_Of.f k (([3] : List Int))).bind fun bt316 => ((ebbtideref08_Items.f k bt307.2.2 (([(⟨2, (⟨#[99, 112, 117]⟩ : ByteArray), (⟨bt316.1, (⟨bt316.2.1, bt316.2.2.1⟩ : S52), bt316.2.2.2.1, bt316.2.2.2.2⟩ : S54)⟩ : S56)] : List (S56)))).bind fun t324 => (if t324 = true then ((emit_Same.f k bt307.1 bt307.2.1 bt307.2.2 bt307.1 bt307.2.1 bt307.2.2).bind fun t325 => (if t325 = true then ((emit_Same.f k bt307.1 bt307.2.1 bt307.2.2 0 0 ([] : List (S56))).bind fun t326 => (some (!t326))) else (none))) else (none)))) else (none)) else (none))))) else (none)) else (none))) = some r := H
 have A5 := Aside0.mk A50
 clear A50
 obtain ⟨y304, hy304⟩ : ∃ y_ : List (S50), y_ = (([(⟨([] : List (S70))⟩ : S50), (⟨t270⟩ : S50)] : List (S50))) := ⟨_, rfl⟩
 replace H : ((emit_Take.f k 2 9 y304).bind fun bt307 => (if t279 = true then (if t278 = 2 then (if t284 = true then (none) else (if t292 = true then (none) else (if t303 = true then (none) else (if bt307.1 = 2 then (if bt307.2.1 = 9 then ((ebbtideref06_Of.f k (([3] : List Int))).bind fun bt316 => ((ebbtideref08_Items.f k bt307.2.2 (([(⟨2, (⟨#[99, 112, 117]⟩ : ByteArray), (⟨bt316.1, (⟨bt316.2.1, bt316.2.2.1⟩ : S52), bt316.2.2.2.1, bt316.2.2.2.2⟩ : S54)⟩ : S56)] : List (S56)))).bind fun t324 => (if t324 = true then ((emit_Same.f k bt307.1 bt307.2.1 bt307.2.2 bt307.1 bt307.2.1 bt307.2.2).bind fun t325 => (if t325 = true then ((emit_Same.f k bt307.1 bt307.2.1 bt307.2.2 0 0 ([] : List (S56))).bind fun t326 => (some (!t326))) else (none))) else (none)))) else (none)) else (none))))) else (none)) else (none))) = some r := by first | (rw [hy304]; with_reducible exact H) | (have H2_ := (Option.bind_some _ _).symm.trans H; rw [hy304]; with_reducible exact H2_) | (have H2_ := (Option.bind_some _ _).symm.trans H; with_reducible exact H2_) | with_reducible exact H | (rw [hy304]; exact H) | exact H
 have Ny304 := Aside0.mk hy304
 clear hy304
 replace H := Option.bind_eq_some_iff.mp H
 obtain ⟨⟨t307, t308, t309⟩, A60, H⟩ := H
 replace H : (if t279 = true then (if t278 = 2 then (if t284 = true then (none) else (if t292 = true then (none) else (if t303 = true then (none) else (if t307 = 2 then (if t308 = 9 then ((ebbtideref06_Of.f k (([3] : List Int))).bind fun bt316 => ((ebbtideref08_Items.f k t309 (([(⟨2, (⟨#[99, 112, 117]⟩ : ByteArray), (⟨bt316.1, (⟨bt316.2.1, bt316.2.2.1⟩ : S52), bt316.2.2.2.1, bt316.2.2.2.2⟩ : S54)⟩ : S56)] : List (S56)))).bind fun t324 => (if t324 = true then ((emit_Same.f k t307 t308 t309 t307 t308 t309).bind fun t325 => (if t325 = true then ((emit_Same.f k t307 t308 t309 0 0 ([] : List (S56))).bind fun t326 => (some (!t326))) else (none))) else (none)))) else (none)) else (none))))) else (none)) else (none)) = some r := H
 have A6 := Aside0.mk A60
 clear A60
 by_cases c7 : t279 = true
 ·
  subst c7
  rw [if_pos rfl] at H
  by_cases c8 : t278 = 2
  ·
   rw [if_pos c8] at H
   have c8b0 : (t278 == 2) = true := beq_iff_eq.mpr c8
   have c8b1 : (t278 != 2) = false := bne_eq_false_iff_eq.mpr c8
   clear c8
   by_cases c9 : t284 = true
   ·
    subst c9
    rw [if_pos rfl] at H
    exact absurd H (by simp)
   ·
    replace c9 := Bool.eq_false_iff.mpr c9
    subst c9
    rw [if_neg (show ¬ (false = true) by decide)] at H
    by_cases c10 : t292 = true
    ·
     subst c10
     rw [if_pos rfl] at H
     exact absurd H (by simp)
    ·
     replace c10 := Bool.eq_false_iff.mpr c10
     subst c10
     rw [if_neg (show ¬ (false = true) by decide)] at H
     by_cases c11 : t303 = true
     ·
      subst c11
      rw [if_pos rfl] at H
      exact absurd H (by simp)
     ·
      replace c11 := Bool.eq_false_iff.mpr c11
      subst c11
      rw [if_neg (show ¬ (false = true) by decide)] at H
      by_cases c12 : t307 = 2
      ·
       rw [if_pos c12] at H
       have c12b0 : (t307 == 2) = true := beq_iff_eq.mpr c12
       have c12b1 : (t307 != 2) = false := bne_eq_false_iff_eq.mpr c12
       clear c12
       by_cases c13 : t308 = 9
       ·
        rw [if_pos c13] at H
        have c13b0 : (t308 == 9) = true := beq_iff_eq.mpr c13
        have c13b1 : (t308 != 9) = false := bne_eq_false_iff_eq.mpr c13
        clear c13
        obtain ⟨y313, hy313⟩ : ∃ y_ : List Int, y_ = (([3] : List Int)) := ⟨_, rfl⟩
        replace H : ((ebbtideref06_Of.f k y313).bind fun bt316 => ((ebbtideref08_Items.f k t309 (([(⟨2, (⟨#[99, 112, 117]⟩ : ByteArray), (⟨bt316.1, (⟨bt316.2.1, bt316.2.2.1⟩ : S52), bt316.2.2.2.1, bt316.2.2.2.2⟩ : S54)⟩ : S56)] : List (S56)))).bind fun t324 => (if t324 = true then ((emit_Same.f k t307 t308 t309 t307 t308 t309).bind fun t325 => (if t325 = true then ((emit_Same.f k t307 t308 t309 0 0 ([] : List (S56))).bind fun t326 => (some (!t326))) else (none))) else (none)))) = some r := by first | (rw [hy313]; with_reducible exact H) | (have H2_ := (Option.bind_some _ _).symm.trans H; rw [hy313]; with_reducible exact H2_) | (have H2_ := (Option.bind_some _ _).symm.trans H; with_reducible exact H2_) | with_reducible exact H | (rw [hy313]; exact H) | exact H
        have Ny313 := Aside0.mk hy313
        clear hy313
        replace H := Option.bind_eq_some_iff.mp H
        obtain ⟨⟨t316, t317, t318, t319, t320⟩, A140, H⟩ := H
        replace H : ((ebbtideref08_Items.f k t309 (([(⟨2, (⟨#[99, 112, 117]⟩ : ByteArray), (⟨t316, (⟨t317, t318⟩ : S52), t319, t320⟩ : S54)⟩ : S56)] : List (S56)))).bind fun t324 => (if t324 = true then ((emit_Same.f k t307 t308 t309 t307 t308 t309).bind fun t325 => (if t325 = true then ((emit_Same.f k t307 t308 t309 0 0 ([] : List (S56))).bind fun t326 => (some (!t326))) else (none))) else (none))) = some r := H
        have A14 := Aside0.mk A140
        clear A140
        obtain ⟨y321, hy321⟩ : ∃ y_ : List (S56), y_ = (([(⟨2, (⟨#[99, 112, 117]⟩ : ByteArray), (⟨t316, (⟨t317, t318⟩ : S52), t319, t320⟩ : S54)⟩ : S56)] : List (S56))) := ⟨_, rfl⟩
        replace H : ((ebbtideref08_Items.f k t309 y321).bind fun t324 => (if t324 = true then ((emit_Same.f k t307 t308 t309 t307 t308 t309).bind fun t325 => (if t325 = true then ((emit_Same.f k t307 t308 t309 0 0 ([] : List (S56))).bind fun t326 => (some (!t326))) else (none))) else (none))) = some r := by first | (rw [hy321]; with_reducible exact H) | (have H2_ := (Option.bind_some _ _).symm.trans H; rw [hy321]; with_reducible exact H2_) | (have H2_ := (Option.bind_some _ _).symm.trans H; with_reducible exact H2_) | with_reducible exact H | (rw [hy321]; exact H) | exact H
        have Ny321 := Aside0.mk hy321
        clear hy321
        replace H := Option.bind_eq_some_iff.mp H
        obtain ⟨t324, A150, H⟩ := H
        replace H : (if t324 = true then ((emit_Same.f k t307 t308 t309 t307 t308 t309).bind fun t325 => (if t325 = true then ((emit_Same.f k t307 t308 t309 0 0 ([] : List (S56))).bind fun t326 => (some (!t326))) else (none))) else (none)) = some r := H
        have A15 := Aside0.mk A150
        clear A150
        by_cases c16 : t324 = true
        ·
         subst c16
         rw [if_pos rfl] at H
         replace H := Option.bind_eq_some_iff.mp H
         obtain ⟨t325, A170, H⟩ := H
         replace H : (if t325 = true then ((emit_Same.f k t307 t308 t309 0 0 ([] : List (S56))).bind fun t326 => (some (!t326))) else (none)) = some r := H
         have A17 := Aside0.mk A170
         clear A170
         by_cases c18 : t325 = true
         ·
          subst c18
          rw [if_pos rfl] at H
          replace H := Option.bind_eq_some_iff.mp H
          obtain ⟨t326, A190, H⟩ := H
          replace H : (some (!t326)) = some r := H
          have A19 := Aside0.mk A190
          clear A190
          obtain rfl := Option.some.inj H
          go_enter Try.func7, Try.ntmps7
          try go_wp2_with (first | ((with_reducible refine gate_dst (N := 1) rfl ?_); (try (refine gate_guard (by rfl) ?_; dsimp only)); refine box_event ?hg (N := 1) ?hd (cs := #[.int .i64 0, .int .i64 0, .int .i64 0, .int .i64 0, .int .i64 0]) (t := 23) ?hr ?_; (case hd => rfl); (case hg => rfl); (case hr => first | (go_simp; done) | (go_simp; rfl)); intro gb269 hg w20 hbox hb; have BK269 := Aside0.mk (hbox); have GW269 := Aside0.mk ((by rw [hg]; exact (below_size (uW HB.out)) : w.heap.size ≤ gb269)); have GE269 := Aside0.mk ((by rw [hg]; exact (below_size (uW HB.out)) : w.heap.size ≤ gb269)); replace HB := cW HB hb; clear hb hbox hg; have hcz21_0 : w20.cell? ⟨gb269, 0, none⟩ = some (.int .i64 0) := (blk_cell BK269.out 0).trans rfl; have hcz21_1 : w20.cell? ⟨gb269, 1, none⟩ = some (.int .i64 0) := (blk_cell BK269.out 1).trans rfl; have hcz21_2 : w20.cell? ⟨gb269, 2, none⟩ = some (.int .i64 0) := (blk_cell BK269.out 2).trans rfl; have hcz21_3 : w20.cell? ⟨gb269, 3, none⟩ = some (.int .i64 0) := (blk_cell BK269.out 3).trans rfl; have hcz21_4 : w20.cell? ⟨gb269, 4, none⟩ = some (.int .i64 0) := (blk_cell BK269.out 4).trans rfl; have hfz21_0 := blk_frozen BK269.out 0; have hfz21_1 := blk_frozen BK269.out 1; have hfz21_2 := blk_frozen BK269.out 2; have hfz21_3 := blk_frozen BK269.out 3; have hfz21_4 := blk_frozen BK269.out 4) | ((with_reducible refine gate_store (t := 23) (p := 1) rfl ?_); refine store_event (t := 23) (p := 1) (v := ?vo_w22) (w1 := (((((w20.setCell ⟨gb269, 0, none⟩ (.int .i64 0)).setCell ⟨gb269, 1, none⟩ (.int .i64 0)).setCell ⟨gb269, 2, none⟩ (.int .i64 10)).setCell ⟨gb269, 3, none⟩ (.int .i64 5)).setCell ⟨gb269, 4, none⟩ (.int .i64 0))) ?hg ?ho ?hn ?hr ?_; (case ho => rfl); (case hg => rfl); (case hn => rfl); (case hr => first | (go_simp; done) | (go_simp; rfl)); intro w22 hw; have n0_ : Aside0 (w22.heap[gb269]? = some (.cells #[.int .i64 0, .int .i64 0, .int .i64 10, .int .i64 5, .int .i64 0] 23 (0, 0))) := ⟨(by rw [hw]; exact (by (with_reducible repeat (first | refine blk_drewN ?_ _ | refine blk_drew ?_ | refine blk_alloc ?_ _)); refine blk_put (cs := #[.int .i64 0, .int .i64 0, .int .i64 10, .int .i64 5, .int .i64 0]) ?_ 4 _ rfl; (with_reducible repeat (first | refine blk_drewN ?_ _ | refine blk_drew ?_ | refine blk_alloc ?_ _)); refine blk_put (cs := #[.int .i64 0, .int .i64 0, .int .i64 10, .int .i64 0, .int .i64 0]) ?_ 3 _ rfl; (with_reducible repeat (first | refine blk_drewN ?_ _ | refine blk_drew ?_ | refine blk_alloc ?_ _)); refine blk_put (cs := #[.int .i64 0, .int .i64 0, .int .i64 0, .int .i64 0, .int .i64 0]) ?_ 2 _ rfl; (with_reducible repeat (first | refine blk_drewN ?_ _ | refine blk_drew ?_ | refine blk_alloc ?_ _)); refine blk_put (cs := #[.int .i64 0, .int .i64 0, .int .i64 0, .int .i64 0, .int .i64 0]) ?_ 1 _ rfl; (with_reducible repeat (first | refine blk_drewN ?_ _ | refine blk_drew ?_ | refine blk_alloc ?_ _)); refine blk_put (cs := #[.int .i64 0, .int .i64 0, .int .i64 0, .int .i64 0, .int .i64 0]) ?_ 0 _ rfl; exact uB <| BK269.out))⟩; have n1_ : Aside0 (Below w.heap.size w w22) := ⟨(by rw [hw]; exact (by repeat (first | (with_reducible first | exact HB.out | apply below_alloc | apply pw_below_drewN | apply below_drew1 | refine below_set ?_ GE269.out) | exact HB.out)))⟩; clear hw; clear BK269; clear HB; have BK269 := n0_; have HB := n1_; clear n0_ n1_) | ((with_reducible refine gate_callee (f := 19) rfl ?_); refine goesL_ (some 17) rfl rfl Try.func19 (by kernel_rfl) rfl #[.agg #[.slice none 0 0], .agg #[.int .i64 1, .int .i64 2, .string (⟨#[99, 112, 117]⟩ : ByteArray), .int .i64 3]] rfl (by (try simp only [List.map_toArray, List.map_cons, List.map_nil]); first | done | rfl | (simp only [List.length_drop, List.length_take]; rfl)) ?_; (refine (ebbtideref11_Apply.calls k (fun k_ => False) _ _ ([] : List (S70)) 1 2 (⟨#[99, 112, 117]⟩ : ByteArray) 3 t270 t273 _ ?side1 A1.out).mono ?_); (case side1 => exact Kd.V_nil _ _ _ _ _); rintro e w23 ⟨v271, rfl, ho0, hb⟩; refine ⟨_, rfl, ?_⟩; have HO272 := Aside0.mk (Kd.N_lower (Kd.N_mono (ok' := fun k_ => k_ ≠ gb269) ho0 (fun k_ hk_ => Or.elim hk_ (fun hs_ => (hs_).elim) (fun hn_ => (Kd.freshB (g := gb269) (o := .cells #[.int .i64 0, .int .i64 0, .int .i64 10, .int .i64 5, .int .i64 0] 23 (0, 0)) (uB BK269.out) k_ hn_)))) (below_size (by repeat (first | (with_reducible first | exact HB.out | apply below_alloc | apply pw_below_drewN | apply below_drew1 | refine below_set ?_ GE269.out) | exact HB.out)))); replace BK269 := cB BK269 hb; replace HB := Aside0.mk (below_step (by repeat (first | (with_reducible first | exact HB.out | apply below_alloc | apply pw_below_drewN | apply below_drew1 | refine below_set ?_ GE269.out) | exact HB.out)) hb); (try clear hb); (try clear ho0)) | ((with_reducible refine gate_dst (N := 2) rfl ?_); (try (refine gate_guard (by rfl) ?_; dsimp only)); refine box_event ?hg (N := 2) ?hd (cs := #[.slice none 0 0]) (t := 50) ?hr ?_; (case hd => rfl); (case hg => rfl); (case hr => first | (go_simp; done) | (go_simp; rfl)); intro gb274 hg w24 hbox hb; replace HO272 := Aside0.mk (Kd.N_below (Kd.N_elderB (by (with_reducible repeat (first | apply Kd.N_alloc | apply Kd.N_drewN | apply Kd.N_drew)); exact HO272.out) gb274 (Nat.le_of_eq hg.symm)) hb); have BK274 := Aside0.mk (hbox); have GW274 := Aside0.mk ((by rw [hg]; exact (below_size (by repeat (first | (with_reducible first | exact HB.out | apply below_alloc | apply pw_below_drewN | apply below_drew1 | refine below_set ?_ GE269.out) | exact HB.out))) : w.heap.size ≤ gb274)); have GE274 := Aside0.mk ((by rw [hg]; exact (below_size (by repeat (first | (with_reducible first | exact HB.out | apply below_alloc | apply pw_below_drewN | apply below_drew1 | refine below_set ?_ GE269.out) | exact HB.out))) : w.heap.size ≤ gb274)); replace HB := Aside0.mk (below_step (by repeat (first | (with_reducible first | exact HB.out | apply below_alloc | apply pw_below_drewN | apply below_drew1 | refine below_set ?_ GE269.out) | exact HB.out)) hb); have NB269_274 := Aside0.mk ((by rw [hg]; exact Nat.ne_of_lt (blk_lt (g := gb269) (o := .cells #[.int .i64 0, .int .i64 0, .int .i64 10, .int .i64 5, .int .i64 0] 23 (0, 0)) (uB BK269.out)) : gb269 ≠ gb274)); have NB274_269 := Aside0.mk ((by rw [hg]; exact Nat.ne_of_gt (blk_lt (g := gb269) (o := .cells #[.int .i64 0, .int .i64 0, .int .i64 10, .int .i64 5, .int .i64 0] 23 (0, 0)) (uB BK269.out)) : gb274 ≠ gb269)); replace BK269 := cB BK269 hb; clear hb hbox hg; obtain ⟨Ao25, co25, eo25⟩ := Kd.N_slice HO272.out; subst eo25; have hnb26 := NB274_269.out; have hnc26 := NB269_274.out; have hcz27_0 : w24.cell? ⟨gb274, 0, none⟩ = some (.slice none 0 0) := (blk_cell BK274.out 0).trans rfl; have hfz27_0 := blk_frozen BK274.out 0) | ((with_reducible refine gate_store (t := 50) (p := 2) rfl ?_); refine store_event (t := 50) (p := 2) (v := ?vo_w28) (w1 := (w24.setCell ⟨gb274, 0, none⟩ (.slice Ao25 t270.length co25))) ?hg ?ho ?hn ?hr ?_; (case ho => rfl); (case hg => rfl); (case hn => rfl); (case hr => first | (go_simp; done) | (go_simp; rfl)); intro w28 hw; have n0_ : Aside0 (Kd.N k70 70 w28 w.heap.size (fun k_ => k_ ≠ gb269 ∧ k_ ≠ gb274) (.slice Ao25 t270.length co25) t270) := ⟨(by rw [hw]; exact (by (with_reducible repeat (first | apply Kd.N_alloc | apply Kd.N_drewN | apply Kd.N_drew)); exact Kd.N_mono (Kd.N_far (p := ⟨gb274, 0, none⟩) (Kd.N_mono HO272.out (fun k_ hk => (⟨hk, hk.2⟩ : _ ∧ k_ ≠ gb274))) (fun _ hk => hk.2) (.slice Ao25 t270.length co25)) (fun _ hk => ⟨hk.1.1, hk.1.2⟩)))⟩; have n1_ : Aside0 (w28.heap[gb269]? = some (.cells #[.int .i64 0, .int .i64 0, .int .i64 10, .int .i64 5, .int .i64 0] 23 (0, 0))) := ⟨(by rw [hw]; exact (by (with_reducible repeat (first | refine blk_drewN ?_ _ | refine blk_drew ?_ | refine blk_alloc ?_ _)); refine blk_far ?_ NB269_274.out _; exact uB <| BK269.out))⟩; have n2_ : Aside0 (w28.heap[gb274]? = some (.cells #[.slice Ao25 t270.length co25] 50 (0, 0))) := ⟨(by rw [hw]; exact (by (with_reducible repeat (first | refine blk_drewN ?_ _ | refine blk_drew ?_ | refine blk_alloc ?_ _)); refine blk_put (cs := #[.slice none 0 0]) ?_ 0 _ rfl; exact uB <| BK274.out))⟩; have n3_ : Aside0 (Below w.heap.size w w28) := ⟨(by rw [hw]; exact (by repeat (first | (with_reducible first | exact HB.out | apply below_alloc | apply pw_below_drewN | apply below_drew1 | refine below_set ?_ GE269.out | refine below_set ?_ GE274.out) | exact HB.out)))⟩; clear hw; clear HO272; clear BK269; clear BK274; clear HB; have HO272 := n0_; have BK269 := n1_; have BK274 := n2_; have HB := n3_; clear n0_ n1_ n2_ n3_; have hcz29_0 : w28.cell? ⟨gb269, 0, none⟩ = some (.int .i64 0) := (blk_cell BK269.out 0).trans rfl; have hcz29_1 : w28.cell? ⟨gb269, 1, none⟩ = some (.int .i64 0) := (blk_cell BK269.out 1).trans rfl; have hcz29_2 : w28.cell? ⟨gb269, 2, none⟩ = some (.int .i64 10) := (blk_cell BK269.out 2).trans rfl; have hcz29_3 : w28.cell? ⟨gb269, 3, none⟩ = some (.int .i64 5) := (blk_cell BK269.out 3).trans rfl; have hcz29_4 : w28.cell? ⟨gb269, 4, none⟩ = some (.int .i64 0) := (blk_cell BK269.out 4).trans rfl; have hfz29_0 := blk_frozen BK269.out 0; have hfz29_1 := blk_frozen BK269.out 1; have hfz29_2 := blk_frozen BK269.out 2; have hfz29_3 := blk_frozen BK269.out 3; have hfz29_4 := blk_frozen BK269.out 4; have hcz30_0 : w28.cell? ⟨gb274, 0, none⟩ = some (.slice Ao25 t270.length co25) := (blk_cell BK274.out 0).trans rfl; have hfz30_0 := blk_frozen BK274.out 0) | ((with_reducible refine gate_dst (N := 23) rfl ?_); (try (refine gate_guard (by rfl) ?_; dsimp only)); refine Kd.N_lit k50 _ 50 ?hg (N' := 23) ?hd (xs := ([(⟨t270⟩ : S50)] : List (S50))) (inner := [.slice Ao25 t270.length co25]) (ok := (fun k_ => k_ ≠ gb269 ∧ k_ ≠ gb274)) (okp := (fun k_ => k_ ≠ gb269 ∧ k_ ≠ gb274)) ?hr ?hp (fun _ hk => hk) ((show ∀ k_, w28.heap.size ≤ k_ → (fun k_ => k_ ≠ gb269 ∧ k_ ≠ gb274) k_ from fun k_ hk => ⟨Kd.freshB (g := gb269) (o := .cells #[.int .i64 0, .int .i64 0, .int .i64 10, .int .i64 5, .int .i64 0] 23 (0, 0)) (uB BK269.out) k_ hk, Kd.freshB (g := gb274) (o := .cells #[.slice Ao25 t270.length co25] 50 (0, 0)) (uB BK274.out) k_ hk⟩) _ (Nat.le_refl _)) (Below.refl _ _) (Nat.le_refl _) (by simp) ?_; (case hd => rfl); (case hg => rfl); (case hr => first | (go_simp; done) | (go_simp; rfl)); (case hp => exact (Reps.one (show Kd.FK k50 _ _ (⟨t270⟩ : S50) [.slice Ao25 t270.length co25] from (k50_mkF _ _ (⟨t270⟩ : S50) (Kd.N_reads' (Kd.N_mono (ok' := (fun k_ => k_ ≠ gb269 ∧ k_ ≠ gb274)) (HO272.out) (fun k_ hk => ⟨hk.1, hk.2⟩))).2.1 (Kd.N_F (Kd.N_mono (ok' := (fun k_ => k_ ≠ gb269 ∧ k_ ≠ gb274)) (HO272.out) (fun k_ hk => ⟨hk.1, hk.2⟩))))) (Reps.none _ _))); intro v276 w31 ho32 hb hg_ hnew_; clear hg_ hnew_; (first | rw [← Ny275.out] at ho32 | (simp only [Int.reduceToNat] at ho32; rw [← Ny275.out] at ho32)); replace HO272 := Aside0.mk (Kd.N_elder' (by (with_reducible repeat (first | apply Kd.N_alloc | apply Kd.N_drewN | apply Kd.N_drew)); exact HO272.out) (Kd.N_base ho32) hb); have HO277 := Aside0.mk (Kd.N_lower ho32 (below_size (by repeat (first | (with_reducible first | exact HB.out | apply below_alloc | apply pw_below_drewN | apply below_drew1 | refine below_set ?_ GE269.out | refine below_set ?_ GE274.out) | exact HB.out)))); replace BK269 := cB BK269 hb; replace BK274 := cB BK274 hb; replace HB := Aside0.mk (below_step (by repeat (first | (with_reducible first | exact HB.out | apply below_alloc | apply pw_below_drewN | apply below_drew1 | refine below_set ?_ GE269.out | refine below_set ?_ GE274.out) | exact HB.out)) hb); clear hb ho32; obtain ⟨Ao33, co33, eo33⟩ := Kd.N_slice HO277.out; subst eo33) | ((with_reducible refine gate_callee (f := 9) rfl ?_); refine goesL_ (some 24) rfl rfl Try.func9 (by kernel_rfl) rfl #[.agg #[.int .i64 0, .int .i64 0, .int .i64 10, .int .i64 5, .int .i64 0], .int .i64 35, .slice none 0 0, .slice none 0 0, .slice Ao33 y275.length co33] rfl (by (try simp only [List.map_toArray, List.map_cons, List.map_nil]); first | done | rfl | (simp only [List.length_drop, List.length_take]; rfl)) ?_; (refine (emit_Next.calls k 0 0 10 5 0 35 _ _ ([] : List (S46)) _ _ ([] : List (List (S61))) _ _ y275 t278 true _ ?side1 ?side2 ?side3 ?side4 ?side5 ?side6 A2.out).mono ?_); (case side1 => exact Kd.C_nil _ _); (case side2 => exact Nat.le_refl _); (case side3 => exact Kd.C_nil _ _); (case side4 => exact Nat.le_refl _); (case side5 => repeat (first | exact (Kd.N_reads' HO277.out).2.2 | (with_reducible refine Kd.C_alloc ?_ _) | (with_reducible refine Kd.C_drewN ?_ _) | (with_reducible refine Kd.C_drew ?_))); (case side6 => exact (Kd.N_reads' HO277.out).2.1); rintro e w34 ⟨rfl, hb⟩; refine ⟨_, rfl, ?_⟩; replace HO272 := Aside0.mk (Kd.N_below (by (with_reducible repeat (first | apply Kd.N_alloc | apply Kd.N_drewN | apply Kd.N_drew)); exact HO272.out) hb); replace HO277 := Aside0.mk (Kd.N_below (by (with_reducible repeat (first | apply Kd.N_alloc | apply Kd.N_drewN | apply Kd.N_drew)); exact HO277.out) hb); replace BK269 := cB BK269 hb; replace BK274 := cB BK274 hb; replace HB := Aside0.mk (below_step (by repeat (first | (with_reducible first | exact HB.out | apply below_alloc | apply pw_below_drewN | apply below_drew1 | refine below_set ?_ GE269.out | refine below_set ?_ GE274.out) | exact HB.out)) hb); (try clear hb); have hcz35_0 : w34.cell? ⟨gb269, 0, none⟩ = some (.int .i64 0) := (blk_cell BK269.out 0).trans rfl; have hcz35_1 : w34.cell? ⟨gb269, 1, none⟩ = some (.int .i64 0) := (blk_cell BK269.out 1).trans rfl; have hcz35_2 : w34.cell? ⟨gb269, 2, none⟩ = some (.int .i64 10) := (blk_cell BK269.out 2).trans rfl; have hcz35_3 : w34.cell? ⟨gb269, 3, none⟩ = some (.int .i64 5) := (blk_cell BK269.out 3).trans rfl; have hcz35_4 : w34.cell? ⟨gb269, 4, none⟩ = some (.int .i64 0) := (blk_cell BK269.out 4).trans rfl; have hfz35_0 := blk_frozen BK269.out 0; have hfz35_1 := blk_frozen BK269.out 1; have hfz35_2 := blk_frozen BK269.out 2; have hfz35_3 := blk_frozen BK269.out 3; have hfz35_4 := blk_frozen BK269.out 4; have hcz36_0 : w34.cell? ⟨gb274, 0, none⟩ = some (.slice Ao25 t270.length co25) := (blk_cell BK274.out 0).trans rfl; have hfz36_0 := blk_frozen BK274.out 0) | ((with_reducible refine gate_dst (N := 30) rfl ?_); (try (refine gate_guard (by rfl) ?_; dsimp only)); refine Kd.N_lit k50 _ 50 ?hg (N' := 30) ?hd (xs := ([(⟨t270⟩ : S50)] : List (S50))) (inner := [.slice Ao25 t270.length co25]) (ok := (fun k_ => some k_ ≠ (.slice Ao33 y275.length co33 : Value).ownBlock ∧ k_ ≠ gb269 ∧ k_ ≠ gb274)) (okp := (fun k_ => some k_ ≠ (.slice Ao33 y275.length co33 : Value).ownBlock ∧ k_ ≠ gb269 ∧ k_ ≠ gb274)) ?hr ?hp (fun _ hk => hk) ((show ∀ k_, w34.heap.size ≤ k_ → (fun k_ => some k_ ≠ (.slice Ao33 y275.length co33 : Value).ownBlock ∧ k_ ≠ gb269 ∧ k_ ≠ gb274) k_ from fun k_ hk => ⟨Kd.fresh' (Kd.N_lt (by (with_reducible repeat (first | apply Kd.N_alloc | apply Kd.N_drewN | apply Kd.N_drew)); exact HO277.out)) k_ hk, Kd.freshB (g := gb269) (o := .cells #[.int .i64 0, .int .i64 0, .int .i64 10, .int .i64 5, .int .i64 0] 23 (0, 0)) (uB BK269.out) k_ hk, Kd.freshB (g := gb274) (o := .cells #[.slice Ao25 t270.length co25] 50 (0, 0)) (uB BK274.out) k_ hk⟩) _ (Nat.le_refl _)) (Below.refl _ _) (Nat.le_refl _) (by simp) ?_; (case hd => rfl); (case hg => rfl); (case hr => first | (go_simp; done) | (go_simp; rfl)); (case hp => exact (Reps.one (show Kd.FK k50 _ _ (⟨t270⟩ : S50) [.slice Ao25 t270.length co25] from (k50_mkF _ _ (⟨t270⟩ : S50) (Kd.N_reads' (Kd.N_mono (ok' := (fun k_ => some k_ ≠ (.slice Ao33 y275.length co33 : Value).ownBlock ∧ k_ ≠ gb269 ∧ k_ ≠ gb274)) (HO272.out) (fun k_ hk => ⟨hk.2, ⟨hk.1.1, hk.1.2⟩⟩))).2.1 (Kd.N_F (Kd.N_mono (ok' := (fun k_ => some k_ ≠ (.slice Ao33 y275.length co33 : Value).ownBlock ∧ k_ ≠ gb269 ∧ k_ ≠ gb274)) (HO272.out) (fun k_ hk => ⟨hk.2, ⟨hk.1.1, hk.1.2⟩⟩))))) (Reps.none _ _))); intro v281 w37 ho38 hb hg_ hnew_; clear hg_ hnew_; (first | rw [← Ny280.out] at ho38 | (simp only [Int.reduceToNat] at ho38; rw [← Ny280.out] at ho38)); replace HO272 := Aside0.mk (Kd.N_elder' (by (with_reducible repeat (first | apply Kd.N_alloc | apply Kd.N_drewN | apply Kd.N_drew)); exact HO272.out) (Kd.N_base ho38) hb); replace HO277 := Aside0.mk (Kd.N_elder' (by (with_reducible repeat (first | apply Kd.N_alloc | apply Kd.N_drewN | apply Kd.N_drew)); exact HO277.out) (Kd.N_base ho38) hb); have HO282 := Aside0.mk (Kd.N_lower ho38 (below_size (by repeat (first | (with_reducible first | exact HB.out | apply below_alloc | apply pw_below_drewN | apply below_drew1 | refine below_set ?_ GE269.out | refine below_set ?_ GE274.out) | exact HB.out)))); replace BK269 := cB BK269 hb; replace BK274 := cB BK274 hb; replace HB := Aside0.mk (below_step (by repeat (first | (with_reducible first | exact HB.out | apply below_alloc | apply pw_below_drewN | apply below_drew1 | refine below_set ?_ GE269.out | refine below_set ?_ GE274.out) | exact HB.out)) hb); clear hb ho38; obtain ⟨Ao39, co39, eo39⟩ := Kd.N_slice HO282.out; subst eo39) | ((with_reducible refine gate_callee (f := 9) rfl ?_); refine goesL_ (some 31) rfl rfl Try.func9 (by kernel_rfl) rfl #[.agg #[.int .i64 0, .int .i64 0, .int .i64 10, .int .i64 5, .int .i64 0], .int .i64 34, .slice none 0 0, .slice none 0 0, .slice Ao39 y280.length co39] rfl (by (try simp only [List.map_toArray, List.map_cons, List.map_nil]); first | done | rfl | (simp only [List.length_drop, List.length_take]; rfl)) ?_; (refine (emit_Next.calls k 0 0 10 5 0 34 _ _ ([] : List (S46)) _ _ ([] : List (List (S61))) _ _ y280 t283 false _ ?side1 ?side2 ?side3 ?side4 ?side5 ?side6 A3.out).mono ?_); (case side1 => exact Kd.C_nil _ _); (case side2 => exact Nat.le_refl _); (case side3 => exact Kd.C_nil _ _); (case side4 => exact Nat.le_refl _); (case side5 => repeat (first | exact (Kd.N_reads' HO282.out).2.2 | (with_reducible refine Kd.C_alloc ?_ _) | (with_reducible refine Kd.C_drewN ?_ _) | (with_reducible refine Kd.C_drew ?_))); (case side6 => exact (Kd.N_reads' HO282.out).2.1); rintro e w40 ⟨rfl, hb⟩; refine ⟨_, rfl, ?_⟩; replace HO272 := Aside0.mk (Kd.N_below (by (with_reducible repeat (first | apply Kd.N_alloc | apply Kd.N_drewN | apply Kd.N_drew)); exact HO272.out) hb); replace HO277 := Aside0.mk (Kd.N_below (by (with_reducible repeat (first | apply Kd.N_alloc | apply Kd.N_drewN | apply Kd.N_drew)); exact HO277.out) hb); replace HO282 := Aside0.mk (Kd.N_below (by (with_reducible repeat (first | apply Kd.N_alloc | apply Kd.N_drewN | apply Kd.N_drew)); exact HO282.out) hb); replace BK269 := cB BK269 hb; replace BK274 := cB BK274 hb; replace HB := Aside0.mk (below_step (by repeat (first | (with_reducible first | exact HB.out | apply below_alloc | apply pw_below_drewN | apply below_drew1 | refine below_set ?_ GE269.out | refine below_set ?_ GE274.out) | exact HB.out)) hb); (try clear hb); have hcz41_0 : w40.cell? ⟨gb269, 0, none⟩ = some (.int .i64 0) := (blk_cell BK269.out 0).trans rfl; have hcz41_1 : w40.cell? ⟨gb269, 1, none⟩ = some (.int .i64 0) := (blk_cell BK269.out 1).trans rfl; have hcz41_2 : w40.cell? ⟨gb269, 2, none⟩ = some (.int .i64 10) := (blk_cell BK269.out 2).trans rfl; have hcz41_3 : w40.cell? ⟨gb269, 3, none⟩ = some (.int .i64 5) := (blk_cell BK269.out 3).trans rfl; have hcz41_4 : w40.cell? ⟨gb269, 4, none⟩ = some (.int .i64 0) := (blk_cell BK269.out 4).trans rfl; have hfz41_0 := blk_frozen BK269.out 0; have hfz41_1 := blk_frozen BK269.out 1; have hfz41_2 := blk_frozen BK269.out 2; have hfz41_3 := blk_frozen BK269.out 3; have hfz41_4 := blk_frozen BK269.out 4) | ((with_reducible refine gate_dst (N := 37) rfl ?_); (try (refine gate_guard (by rfl) ?_; dsimp only)); refine Kd.R_lit k46 _ 46 ?hg (N := 37) ?hd (xs := ([(⟨2, 0⟩ : S46)] : List (S46))) (inner := [.int .i64 2, .int .i64 0]) (ok := fun _ => True) (okp := fun _ => True) ?hr ?hp (fun _ hk => hk) trivial (Below.refl _ _) (Nat.le_refl _) (by simp) ?_; (case hd => rfl); (case hg => rfl); (case hr => first | (go_simp; done) | (go_simp; rfl)); (case hp => exact (Reps.c2 (show Kd.M k46 _ _ _ (⟨2, 0⟩ : S46) [.int .i64 2, .int .i64 0] from (k46_mkM _ _ _ (⟨2, 0⟩ : S46) )) (Reps.none _ _))); intro v286 w42 ho43 hb hg_ hnew_; clear hg_ hnew_; (first | rw [← Ny285.out] at ho43 | (simp only [Int.reduceToNat] at ho43; rw [← Ny285.out] at ho43)); replace HO272 := Aside0.mk (Kd.N_elder' (by (with_reducible repeat (first | apply Kd.N_alloc | apply Kd.N_drewN | apply Kd.N_drew)); exact HO272.out) (Kd.R_base ho43) hb); replace HO277 := Aside0.mk (Kd.N_elder' (by (with_reducible repeat (first | apply Kd.N_alloc | apply Kd.N_drewN | apply Kd.N_drew)); exact HO277.out) (Kd.R_base ho43) hb); replace HO282 := Aside0.mk (Kd.N_elder' (by (with_reducible repeat (first | apply Kd.N_alloc | apply Kd.N_drewN | apply Kd.N_drew)); exact HO282.out) (Kd.R_base ho43) hb); have HO287 := Aside0.mk (Kd.R_lower ho43 (below_size (by repeat (first | (with_reducible first | exact HB.out | apply below_alloc | apply pw_below_drewN | apply below_drew1 | refine below_set ?_ GE269.out | refine below_set ?_ GE274.out) | exact HB.out)))); replace BK269 := cB BK269 hb; replace BK274 := cB BK274 hb; replace HB := Aside0.mk (below_step (by repeat (first | (with_reducible first | exact HB.out | apply below_alloc | apply pw_below_drewN | apply below_drew1 | refine below_set ?_ GE269.out | refine below_set ?_ GE274.out) | exact HB.out)) hb); clear hb ho43; have hcz44_0 : w42.cell? ⟨gb274, 0, none⟩ = some (.slice Ao25 t270.length co25) := (blk_cell BK274.out 0).trans rfl; have hfz44_0 := blk_frozen BK274.out 0) | ((with_reducible refine gate_dst (N := 39) rfl ?_); (try (refine gate_guard (by rfl) ?_; dsimp only)); refine Kd.N_lit k50 _ 50 ?hg (N' := 39) ?hd (xs := ([(⟨t270⟩ : S50)] : List (S50))) (inner := [.slice Ao25 t270.length co25]) (ok := (fun k_ => some k_ ≠ (.slice Ao33 y275.length co33 : Value).ownBlock ∧ some k_ ≠ (.slice Ao39 y280.length co39 : Value).ownBlock ∧ some k_ ≠ (v286 : Value).ownBlock ∧ k_ ≠ gb269 ∧ k_ ≠ gb274)) (okp := (fun k_ => some k_ ≠ (.slice Ao33 y275.length co33 : Value).ownBlock ∧ some k_ ≠ (.slice Ao39 y280.length co39 : Value).ownBlock ∧ some k_ ≠ (v286 : Value).ownBlock ∧ k_ ≠ gb269 ∧ k_ ≠ gb274)) ?hr ?hp (fun _ hk => hk) ((show ∀ k_, w42.heap.size ≤ k_ → (fun k_ => some k_ ≠ (.slice Ao33 y275.length co33 : Value).ownBlock ∧ some k_ ≠ (.slice Ao39 y280.length co39 : Value).ownBlock ∧ some k_ ≠ (v286 : Value).ownBlock ∧ k_ ≠ gb269 ∧ k_ ≠ gb274) k_ from fun k_ hk => ⟨Kd.fresh' (Kd.N_lt (by (with_reducible repeat (first | apply Kd.N_alloc | apply Kd.N_drewN | apply Kd.N_drew)); exact HO277.out)) k_ hk, Kd.fresh' (Kd.N_lt (by (with_reducible repeat (first | apply Kd.N_alloc | apply Kd.N_drewN | apply Kd.N_drew)); exact HO282.out)) k_ hk, Kd.fresh' (Kd.R_lt (uR HO287.out)) k_ hk, Kd.freshB (g := gb269) (o := .cells #[.int .i64 0, .int .i64 0, .int .i64 10, .int .i64 5, .int .i64 0] 23 (0, 0)) (uB BK269.out) k_ hk, Kd.freshB (g := gb274) (o := .cells #[.slice Ao25 t270.length co25] 50 (0, 0)) (uB BK274.out) k_ hk⟩) _ (Nat.le_refl _)) (Below.refl _ _) (Nat.le_refl _) (by simp) ?_; (case hd => rfl); (case hg => rfl); (case hr => first | (go_simp; done) | (go_simp; rfl)); (case hp => exact (Reps.one (show Kd.FK k50 _ _ (⟨t270⟩ : S50) [.slice Ao25 t270.length co25] from (k50_mkF _ _ (⟨t270⟩ : S50) (Kd.N_reads' (Kd.N_mono (ok' := (fun k_ => some k_ ≠ (.slice Ao33 y275.length co33 : Value).ownBlock ∧ some k_ ≠ (.slice Ao39 y280.length co39 : Value).ownBlock ∧ some k_ ≠ (v286 : Value).ownBlock ∧ k_ ≠ gb269 ∧ k_ ≠ gb274)) (HO272.out) (fun k_ hk => ⟨hk.1.1.2, ⟨hk.1.2, ⟨hk.2, ⟨hk.1.1.1.1, hk.1.1.1.2⟩⟩⟩⟩))).2.1 (Kd.N_F (Kd.N_mono (ok' := (fun k_ => some k_ ≠ (.slice Ao33 y275.length co33 : Value).ownBlock ∧ some k_ ≠ (.slice Ao39 y280.length co39 : Value).ownBlock ∧ some k_ ≠ (v286 : Value).ownBlock ∧ k_ ≠ gb269 ∧ k_ ≠ gb274)) (HO272.out) (fun k_ hk => ⟨hk.1.1.2, ⟨hk.1.2, ⟨hk.2, ⟨hk.1.1.1.1, hk.1.1.1.2⟩⟩⟩⟩))))) (Reps.none _ _))); intro v289 w45 ho46 hb hg_ hnew_; clear hg_ hnew_; (first | rw [← Ny288.out] at ho46 | (simp only [Int.reduceToNat] at ho46; rw [← Ny288.out] at ho46)); replace HO272 := Aside0.mk (Kd.N_elder' (by (with_reducible repeat (first | apply Kd.N_alloc | apply Kd.N_drewN | apply Kd.N_drew)); exact HO272.out) (Kd.N_base ho46) hb); replace HO277 := Aside0.mk (Kd.N_elder' (by (with_reducible repeat (first | apply Kd.N_alloc | apply Kd.N_drewN | apply Kd.N_drew)); exact HO277.out) (Kd.N_base ho46) hb); replace HO282 := Aside0.mk (Kd.N_elder' (by (with_reducible repeat (first | apply Kd.N_alloc | apply Kd.N_drewN | apply Kd.N_drew)); exact HO282.out) (Kd.N_base ho46) hb); replace HO287 := cR HO287 hb; have HO290 := Aside0.mk (Kd.N_lower ho46 (below_size (by repeat (first | (with_reducible first | exact HB.out | apply below_alloc | apply pw_below_drewN | apply below_drew1 | refine below_set ?_ GE269.out | refine below_set ?_ GE274.out) | exact HB.out)))); replace BK269 := cB BK269 hb; replace BK274 := cB BK274 hb; replace HB := Aside0.mk (below_step (by repeat (first | (with_reducible first | exact HB.out | apply below_alloc | apply pw_below_drewN | apply below_drew1 | refine below_set ?_ GE269.out | refine below_set ?_ GE274.out) | exact HB.out)) hb); clear hb ho46; obtain ⟨Ao47, co47, eo47⟩ := Kd.R_slice HO287.out; subst eo47; obtain ⟨Ao48, co48, eo48⟩ := Kd.N_slice HO290.out; subst eo48) | ((with_reducible refine gate_callee (f := 9) rfl ?_); refine goesL_ (some 40) rfl rfl Try.func9 (by kernel_rfl) rfl #[.agg #[.int .i64 0, .int .i64 0, .int .i64 10, .int .i64 5, .int .i64 0], .int .i64 35, .slice Ao47 y285.length co47, .slice none 0 0, .slice Ao48 y288.length co48] rfl (by (try simp only [List.map_toArray, List.map_cons, List.map_nil]); first | done | rfl | (simp only [List.length_drop, List.length_take]; rfl)) ?_; (refine (emit_Next.calls k 0 0 10 5 0 35 _ _ y285 _ _ ([] : List (List (S61))) _ _ y288 t291 false _ ?side1 ?side2 ?side3 ?side4 ?side5 ?side6 A4.out).mono ?_); (case side1 => repeat (first | exact (Kd.R_reads' HO287.out).2.2 | (with_reducible refine Kd.C_alloc ?_ _) | (with_reducible refine Kd.C_drewN ?_ _) | (with_reducible refine Kd.C_drew ?_))); (case side2 => exact (Kd.R_reads' HO287.out).2.1); (case side3 => exact Kd.C_nil _ _); (case side4 => exact Nat.le_refl _); (case side5 => repeat (first | exact (Kd.N_reads' HO290.out).2.2 | (with_reducible refine Kd.C_alloc ?_ _) | (with_reducible refine Kd.C_drewN ?_ _) | (with_reducible refine Kd.C_drew ?_))); (case side6 => exact (Kd.N_reads' HO290.out).2.1); rintro e w49 ⟨rfl, hb⟩; refine ⟨_, rfl, ?_⟩; replace HO272 := Aside0.mk (Kd.N_below (by (with_reducible repeat (first | apply Kd.N_alloc | apply Kd.N_drewN | apply Kd.N_drew)); exact HO272.out) hb); replace HO277 := Aside0.mk (Kd.N_below (by (with_reducible repeat (first | apply Kd.N_alloc | apply Kd.N_drewN | apply Kd.N_drew)); exact HO277.out) hb); replace HO282 := Aside0.mk (Kd.N_below (by (with_reducible repeat (first | apply Kd.N_alloc | apply Kd.N_drewN | apply Kd.N_drew)); exact HO282.out) hb); replace HO287 := cR HO287 hb; replace HO290 := Aside0.mk (Kd.N_below (by (with_reducible repeat (first | apply Kd.N_alloc | apply Kd.N_drewN | apply Kd.N_drew)); exact HO290.out) hb); replace BK269 := cB BK269 hb; replace BK274 := cB BK274 hb; replace HB := Aside0.mk (below_step (by repeat (first | (with_reducible first | exact HB.out | apply below_alloc | apply pw_below_drewN | apply below_drew1 | refine below_set ?_ GE269.out | refine below_set ?_ GE274.out) | exact HB.out)) hb); (try clear hb); have hcz50_0 : w49.cell? ⟨gb269, 0, none⟩ = some (.int .i64 0) := (blk_cell BK269.out 0).trans rfl; have hcz50_1 : w49.cell? ⟨gb269, 1, none⟩ = some (.int .i64 0) := (blk_cell BK269.out 1).trans rfl; have hcz50_2 : w49.cell? ⟨gb269, 2, none⟩ = some (.int .i64 10) := (blk_cell BK269.out 2).trans rfl; have hcz50_3 : w49.cell? ⟨gb269, 3, none⟩ = some (.int .i64 5) := (blk_cell BK269.out 3).trans rfl; have hcz50_4 : w49.cell? ⟨gb269, 4, none⟩ = some (.int .i64 0) := (blk_cell BK269.out 4).trans rfl; have hfz50_0 := blk_frozen BK269.out 0; have hfz50_1 := blk_frozen BK269.out 1; have hfz50_2 := blk_frozen BK269.out 2; have hfz50_3 := blk_frozen BK269.out 3; have hfz50_4 := blk_frozen BK269.out 4) | ((with_reducible refine gate_dst (N := 46) rfl ?_); (try (refine gate_guard (by rfl) ?_; dsimp only)); refine Kd.R_lit k61 _ 61 ?hg (N := 46) ?hd (xs := ([(⟨0, 2, (⟨#[]⟩ : ByteArray), 0⟩ : S61)] : List (S61))) (inner := [.int .i64 0, .int .i64 2, .string (⟨#[]⟩ : ByteArray), .int .i64 0]) (ok := fun _ => True) (okp := fun _ => True) ?hr ?hp (fun _ hk => hk) trivial (Below.refl _ _) (Nat.le_refl _) (by simp) ?_; (case hd => rfl); (case hg => rfl); (case hr => first | (go_simp; done) | (go_simp; rfl)); (case hp => exact (Reps.c4 (show Kd.M k61 _ _ _ (⟨0, 2, (⟨#[]⟩ : ByteArray), 0⟩ : S61) [.int .i64 0, .int .i64 2, .string (⟨#[]⟩ : ByteArray), .int .i64 0] from (k61_mkM _ _ _ (⟨0, 2, (⟨#[]⟩ : ByteArray), 0⟩ : S61) )) (Reps.none _ _))); intro v294 w51 ho52 hb hg_ hnew_; clear hg_ hnew_; (first | rw [← Ny293.out] at ho52 | (simp only [Int.reduceToNat] at ho52; rw [← Ny293.out] at ho52)); replace HO272 := Aside0.mk (Kd.N_elder' (by (with_reducible repeat (first | apply Kd.N_alloc | apply Kd.N_drewN | apply Kd.N_drew)); exact HO272.out) (Kd.R_base ho52) hb); replace HO277 := Aside0.mk (Kd.N_elder' (by (with_reducible repeat (first | apply Kd.N_alloc | apply Kd.N_drewN | apply Kd.N_drew)); exact HO277.out) (Kd.R_base ho52) hb); replace HO282 := Aside0.mk (Kd.N_elder' (by (with_reducible repeat (first | apply Kd.N_alloc | apply Kd.N_drewN | apply Kd.N_drew)); exact HO282.out) (Kd.R_base ho52) hb); replace HO287 := cR HO287 hb; replace HO290 := Aside0.mk (Kd.N_elder' (by (with_reducible repeat (first | apply Kd.N_alloc | apply Kd.N_drewN | apply Kd.N_drew)); exact HO290.out) (Kd.R_base ho52) hb); have HO295 := Aside0.mk (Kd.R_lower ho52 (below_size (by repeat (first | (with_reducible first | exact HB.out | apply below_alloc | apply pw_below_drewN | apply below_drew1 | refine below_set ?_ GE269.out | refine below_set ?_ GE274.out) | exact HB.out)))); replace BK269 := cB BK269 hb; replace BK274 := cB BK274 hb; replace HB := Aside0.mk (below_step (by repeat (first | (with_reducible first | exact HB.out | apply below_alloc | apply pw_below_drewN | apply below_drew1 | refine below_set ?_ GE269.out | refine below_set ?_ GE274.out) | exact HB.out)) hb); clear hb ho52; obtain ⟨Ao53, co53, eo53⟩ := Kd.R_slice HO295.out; subst eo53) | ((with_reducible refine gate_dst (N := 47) rfl ?_); (try (refine gate_guard (by rfl) ?_; dsimp only)); refine Kd.N_lit (Kd.slice 61 k61) _ 62 ?hg (N' := 47) ?hd (xs := ([y293] : List (List (S61)))) (inner := [.slice Ao53 y293.length co53]) (ok := (fun k_ => some k_ ≠ (.slice Ao25 t270.length co25 : Value).ownBlock ∧ some k_ ≠ (.slice Ao33 y275.length co33 : Value).ownBlock ∧ some k_ ≠ (.slice Ao39 y280.length co39 : Value).ownBlock ∧ some k_ ≠ (.slice Ao47 y285.length co47 : Value).ownBlock ∧ some k_ ≠ (.slice Ao48 y288.length co48 : Value).ownBlock ∧ k_ ≠ gb269 ∧ k_ ≠ gb274)) (okp := (fun k_ => some k_ ≠ (.slice Ao25 t270.length co25 : Value).ownBlock ∧ some k_ ≠ (.slice Ao33 y275.length co33 : Value).ownBlock ∧ some k_ ≠ (.slice Ao39 y280.length co39 : Value).ownBlock ∧ some k_ ≠ (.slice Ao47 y285.length co47 : Value).ownBlock ∧ some k_ ≠ (.slice Ao48 y288.length co48 : Value).ownBlock ∧ k_ ≠ gb269 ∧ k_ ≠ gb274)) ?hr ?hp (fun _ hk => hk) ((show ∀ k_, w51.heap.size ≤ k_ → (fun k_ => some k_ ≠ (.slice Ao25 t270.length co25 : Value).ownBlock ∧ some k_ ≠ (.slice Ao33 y275.length co33 : Value).ownBlock ∧ some k_ ≠ (.slice Ao39 y280.length co39 : Value).ownBlock ∧ some k_ ≠ (.slice Ao47 y285.length co47 : Value).ownBlock ∧ some k_ ≠ (.slice Ao48 y288.length co48 : Value).ownBlock ∧ k_ ≠ gb269 ∧ k_ ≠ gb274) k_ from fun k_ hk => ⟨Kd.fresh' (Kd.N_lt (by (with_reducible repeat (first | apply Kd.N_alloc | apply Kd.N_drewN | apply Kd.N_drew)); exact HO272.out)) k_ hk, Kd.fresh' (Kd.N_lt (by (with_reducible repeat (first | apply Kd.N_alloc | apply Kd.N_drewN | apply Kd.N_drew)); exact HO277.out)) k_ hk, Kd.fresh' (Kd.N_lt (by (with_reducible repeat (first | apply Kd.N_alloc | apply Kd.N_drewN | apply Kd.N_drew)); exact HO282.out)) k_ hk, Kd.fresh' (Kd.R_lt (uR HO287.out)) k_ hk, Kd.fresh' (Kd.N_lt (by (with_reducible repeat (first | apply Kd.N_alloc | apply Kd.N_drewN | apply Kd.N_drew)); exact HO290.out)) k_ hk, Kd.freshB (g := gb269) (o := .cells #[.int .i64 0, .int .i64 0, .int .i64 10, .int .i64 5, .int .i64 0] 23 (0, 0)) (uB BK269.out) k_ hk, Kd.freshB (g := gb274) (o := .cells #[.slice Ao25 t270.length co25] 50 (0, 0)) (uB BK274.out) k_ hk⟩) _ (Nat.le_refl _)) (Below.refl _ _) (Nat.le_refl _) (by simp) ?_; (case hd => rfl); (case hg => rfl); (case hr => first | (go_simp; done) | (go_simp; rfl)); (case hp => exact (Reps.one (show Kd.FK (Kd.slice 61 k61) _ _ y293 [.slice Ao53 y293.length co53] from (Kd.FK_slice_mk (Kd.R_reads' (Kd.R_mono (ok' := (fun k_ => some k_ ≠ (.slice Ao25 t270.length co25 : Value).ownBlock ∧ some k_ ≠ (.slice Ao33 y275.length co33 : Value).ownBlock ∧ some k_ ≠ (.slice Ao39 y280.length co39 : Value).ownBlock ∧ some k_ ≠ (.slice Ao47 y285.length co47 : Value).ownBlock ∧ some k_ ≠ (.slice Ao48 y288.length co48 : Value).ownBlock ∧ k_ ≠ gb269 ∧ k_ ≠ gb274)) (Kd.R_types (Kd.R_types (Kd.R_apart' (Kd.R_apart' (Kd.R_apart' (Kd.R_apart' (Kd.R_apart' (HO295.out) (Kd.N_typed HO272.out) (by decide)) (Kd.N_typed HO277.out) (by decide)) (Kd.N_typed HO282.out) (by decide)) (Kd.R_typed HO287.out) (by decide)) (Kd.N_typed HO290.out) (by decide)) BK269.out (by decide)) BK274.out (by decide)) (fun k_ hk => ⟨hk.1.1.1.1.1.1.2, ⟨hk.1.1.1.1.1.2, ⟨hk.1.1.1.1.2, ⟨hk.1.1.1.2, ⟨hk.1.1.2, ⟨hk.1.2, hk.2⟩⟩⟩⟩⟩⟩))).2.1 (Kd.R_F (Kd.R_mono (ok' := (fun k_ => some k_ ≠ (.slice Ao25 t270.length co25 : Value).ownBlock ∧ some k_ ≠ (.slice Ao33 y275.length co33 : Value).ownBlock ∧ some k_ ≠ (.slice Ao39 y280.length co39 : Value).ownBlock ∧ some k_ ≠ (.slice Ao47 y285.length co47 : Value).ownBlock ∧ some k_ ≠ (.slice Ao48 y288.length co48 : Value).ownBlock ∧ k_ ≠ gb269 ∧ k_ ≠ gb274)) (Kd.R_types (Kd.R_types (Kd.R_apart' (Kd.R_apart' (Kd.R_apart' (Kd.R_apart' (Kd.R_apart' (HO295.out) (Kd.N_typed HO272.out) (by decide)) (Kd.N_typed HO277.out) (by decide)) (Kd.N_typed HO282.out) (by decide)) (Kd.R_typed HO287.out) (by decide)) (Kd.N_typed HO290.out) (by decide)) BK269.out (by decide)) BK274.out (by decide)) (fun k_ hk => ⟨hk.1.1.1.1.1.1.2, ⟨hk.1.1.1.1.1.2, ⟨hk.1.1.1.1.2, ⟨hk.1.1.1.2, ⟨hk.1.1.2, ⟨hk.1.2, hk.2⟩⟩⟩⟩⟩⟩))))) (Reps.none _ _))); intro v297 w54 ho55 hb hg_ hnew_; clear hg_ hnew_; (first | rw [← Ny296.out] at ho55 | (simp only [Int.reduceToNat] at ho55; rw [← Ny296.out] at ho55)); replace HO272 := Aside0.mk (Kd.N_elder' (by (with_reducible repeat (first | apply Kd.N_alloc | apply Kd.N_drewN | apply Kd.N_drew)); exact HO272.out) (Kd.N_base ho55) hb); replace HO277 := Aside0.mk (Kd.N_elder' (by (with_reducible repeat (first | apply Kd.N_alloc | apply Kd.N_drewN | apply Kd.N_drew)); exact HO277.out) (Kd.N_base ho55) hb); replace HO282 := Aside0.mk (Kd.N_elder' (by (with_reducible repeat (first | apply Kd.N_alloc | apply Kd.N_drewN | apply Kd.N_drew)); exact HO282.out) (Kd.N_base ho55) hb); replace HO287 := cR HO287 hb; replace HO290 := Aside0.mk (Kd.N_elder' (by (with_reducible repeat (first | apply Kd.N_alloc | apply Kd.N_drewN | apply Kd.N_drew)); exact HO290.out) (Kd.N_base ho55) hb); replace HO295 := cR HO295 hb; have HO298 := Aside0.mk (Kd.N_lower ho55 (below_size (by repeat (first | (with_reducible first | exact HB.out | apply below_alloc | apply pw_below_drewN | apply below_drew1 | refine below_set ?_ GE269.out | refine below_set ?_ GE274.out) | exact HB.out)))); replace BK269 := cB BK269 hb; replace BK274 := cB BK274 hb; replace HB := Aside0.mk (below_step (by repeat (first | (with_reducible first | exact HB.out | apply below_alloc | apply pw_below_drewN | apply below_drew1 | refine below_set ?_ GE269.out | refine below_set ?_ GE274.out) | exact HB.out)) hb); clear hb ho55; have hcz56_0 : w54.cell? ⟨gb274, 0, none⟩ = some (.slice Ao25 t270.length co25) := (blk_cell BK274.out 0).trans rfl; have hfz56_0 := blk_frozen BK274.out 0) | ((with_reducible refine gate_dst (N := 49) rfl ?_); (try (refine gate_guard (by rfl) ?_; dsimp only)); refine Kd.N_lit k50 _ 50 ?hg (N' := 49) ?hd (xs := ([(⟨t270⟩ : S50)] : List (S50))) (inner := [.slice Ao25 t270.length co25]) (ok := (fun k_ => some k_ ≠ (.slice Ao33 y275.length co33 : Value).ownBlock ∧ some k_ ≠ (.slice Ao39 y280.length co39 : Value).ownBlock ∧ some k_ ≠ (.slice Ao47 y285.length co47 : Value).ownBlock ∧ some k_ ≠ (.slice Ao48 y288.length co48 : Value).ownBlock ∧ some k_ ≠ (.slice Ao53 y293.length co53 : Value).ownBlock ∧ some k_ ≠ (v297 : Value).ownBlock ∧ k_ ≠ gb269 ∧ k_ ≠ gb274)) (okp := (fun k_ => some k_ ≠ (.slice Ao33 y275.length co33 : Value).ownBlock ∧ some k_ ≠ (.slice Ao39 y280.length co39 : Value).ownBlock ∧ some k_ ≠ (.slice Ao47 y285.length co47 : Value).ownBlock ∧ some k_ ≠ (.slice Ao48 y288.length co48 : Value).ownBlock ∧ some k_ ≠ (.slice Ao53 y293.length co53 : Value).ownBlock ∧ some k_ ≠ (v297 : Value).ownBlock ∧ k_ ≠ gb269 ∧ k_ ≠ gb274)) ?hr ?hp (fun _ hk => hk) ((show ∀ k_, w54.heap.size ≤ k_ → (fun k_ => some k_ ≠ (.slice Ao33 y275.length co33 : Value).ownBlock ∧ some k_ ≠ (.slice Ao39 y280.length co39 : Value).ownBlock ∧ some k_ ≠ (.slice Ao47 y285.length co47 : Value).ownBlock ∧ some k_ ≠ (.slice Ao48 y288.length co48 : Value).ownBlock ∧ some k_ ≠ (.slice Ao53 y293.length co53 : Value).ownBlock ∧ some k_ ≠ (v297 : Value).ownBlock ∧ k_ ≠ gb269 ∧ k_ ≠ gb274) k_ from fun k_ hk => ⟨Kd.fresh' (Kd.N_lt (by (with_reducible repeat (first | apply Kd.N_alloc | apply Kd.N_drewN | apply Kd.N_drew)); exact HO277.out)) k_ hk, Kd.fresh' (Kd.N_lt (by (with_reducible repeat (first | apply Kd.N_alloc | apply Kd.N_drewN | apply Kd.N_drew)); exact HO282.out)) k_ hk, Kd.fresh' (Kd.R_lt (uR HO287.out)) k_ hk, Kd.fresh' (Kd.N_lt (by (with_reducible repeat (first | apply Kd.N_alloc | apply Kd.N_drewN | apply Kd.N_drew)); exact HO290.out)) k_ hk, Kd.fresh' (Kd.R_lt (uR HO295.out)) k_ hk, Kd.fresh' (Kd.N_lt (by (with_reducible repeat (first | apply Kd.N_alloc | apply Kd.N_drewN | apply Kd.N_drew)); exact HO298.out)) k_ hk, Kd.freshB (g := gb269) (o := .cells #[.int .i64 0, .int .i64 0, .int .i64 10, .int .i64 5, .int .i64 0] 23 (0, 0)) (uB BK269.out) k_ hk, Kd.freshB (g := gb274) (o := .cells #[.slice Ao25 t270.length co25] 50 (0, 0)) (uB BK274.out) k_ hk⟩) _ (Nat.le_refl _)) (Below.refl _ _) (Nat.le_refl _) (by simp) ?_; (case hd => rfl); (case hg => rfl); (case hr => first | (go_simp; done) | (go_simp; rfl)); (case hp => exact (Reps.one (show Kd.FK k50 _ _ (⟨t270⟩ : S50) [.slice Ao25 t270.length co25] from (k50_mkF _ _ (⟨t270⟩ : S50) (Kd.N_reads' (Kd.N_mono (ok' := (fun k_ => some k_ ≠ (.slice Ao33 y275.length co33 : Value).ownBlock ∧ some k_ ≠ (.slice Ao39 y280.length co39 : Value).ownBlock ∧ some k_ ≠ (.slice Ao47 y285.length co47 : Value).ownBlock ∧ some k_ ≠ (.slice Ao48 y288.length co48 : Value).ownBlock ∧ some k_ ≠ (.slice Ao53 y293.length co53 : Value).ownBlock ∧ some k_ ≠ (v297 : Value).ownBlock ∧ k_ ≠ gb269 ∧ k_ ≠ gb274)) (HO272.out) (fun k_ hk => ⟨hk.1.1.1.1.1.2, ⟨hk.1.1.1.1.2, ⟨hk.1.1.1.2, ⟨hk.1.1.2, ⟨hk.1.2, ⟨hk.2, ⟨hk.1.1.1.1.1.1.1, hk.1.1.1.1.1.1.2⟩⟩⟩⟩⟩⟩⟩))).2.1 (Kd.N_F (Kd.N_mono (ok' := (fun k_ => some k_ ≠ (.slice Ao33 y275.length co33 : Value).ownBlock ∧ some k_ ≠ (.slice Ao39 y280.length co39 : Value).ownBlock ∧ some k_ ≠ (.slice Ao47 y285.length co47 : Value).ownBlock ∧ some k_ ≠ (.slice Ao48 y288.length co48 : Value).ownBlock ∧ some k_ ≠ (.slice Ao53 y293.length co53 : Value).ownBlock ∧ some k_ ≠ (v297 : Value).ownBlock ∧ k_ ≠ gb269 ∧ k_ ≠ gb274)) (HO272.out) (fun k_ hk => ⟨hk.1.1.1.1.1.2, ⟨hk.1.1.1.1.2, ⟨hk.1.1.1.2, ⟨hk.1.1.2, ⟨hk.1.2, ⟨hk.2, ⟨hk.1.1.1.1.1.1.1, hk.1.1.1.1.1.1.2⟩⟩⟩⟩⟩⟩⟩))))) (Reps.none _ _))); intro v300 w57 ho58 hb hg_ hnew_; clear hg_ hnew_; (first | rw [← Ny299.out] at ho58 | (simp only [Int.reduceToNat] at ho58; rw [← Ny299.out] at ho58)); replace HO272 := Aside0.mk (Kd.N_elder' (by (with_reducible repeat (first | apply Kd.N_alloc | apply Kd.N_drewN | apply Kd.N_drew)); exact HO272.out) (Kd.N_base ho58) hb); replace HO277 := Aside0.mk (Kd.N_elder' (by (with_reducible repeat (first | apply Kd.N_alloc | apply Kd.N_drewN | apply Kd.N_drew)); exact HO277.out) (Kd.N_base ho58) hb); replace HO282 := Aside0.mk (Kd.N_elder' (by (with_reducible repeat (first | apply Kd.N_alloc | apply Kd.N_drewN | apply Kd.N_drew)); exact HO282.out) (Kd.N_base ho58) hb); replace HO287 := cR HO287 hb; replace HO290 := Aside0.mk (Kd.N_elder' (by (with_reducible repeat (first | apply Kd.N_alloc | apply Kd.N_drewN | apply Kd.N_drew)); exact HO290.out) (Kd.N_base ho58) hb); replace HO295 := cR HO295 hb; replace HO298 := Aside0.mk (Kd.N_elder' (by (with_reducible repeat (first | apply Kd.N_alloc | apply Kd.N_drewN | apply Kd.N_drew)); exact HO298.out) (Kd.N_base ho58) hb); have HO301 := Aside0.mk (Kd.N_lower ho58 (below_size (by repeat (first | (with_reducible first | exact HB.out | apply below_alloc | apply pw_below_drewN | apply below_drew1 | refine below_set ?_ GE269.out | refine below_set ?_ GE274.out) | exact HB.out)))); replace BK269 := cB BK269 hb; replace BK274 := cB BK274 hb; replace HB := Aside0.mk (below_step (by repeat (first | (with_reducible first | exact HB.out | apply below_alloc | apply pw_below_drewN | apply below_drew1 | refine below_set ?_ GE269.out | refine below_set ?_ GE274.out) | exact HB.out)) hb); clear hb ho58; obtain ⟨Ao59, co59, eo59⟩ := Kd.N_slice HO298.out; subst eo59; obtain ⟨Ao60, co60, eo60⟩ := Kd.N_slice HO301.out; subst eo60) | ((with_reducible refine gate_callee (f := 9) rfl ?_); refine goesL_ (some 50) rfl rfl Try.func9 (by kernel_rfl) rfl #[.agg #[.int .i64 0, .int .i64 0, .int .i64 10, .int .i64 5, .int .i64 0], .int .i64 35, .slice none 0 0, .slice Ao59 y296.length co59, .slice Ao60 y299.length co60] rfl (by (try simp only [List.map_toArray, List.map_cons, List.map_nil]); first | done | rfl | (simp only [List.length_drop, List.length_take]; rfl)) ?_; (refine (emit_Next.calls k 0 0 10 5 0 35 _ _ ([] : List (S46)) _ _ y296 _ _ y299 t302 false _ ?side1 ?side2 ?side3 ?side4 ?side5 ?side6 A5.out).mono ?_); (case side1 => exact Kd.C_nil _ _); (case side2 => exact Nat.le_refl _); (case side3 => repeat (first | exact (Kd.N_reads' HO298.out).2.2 | (with_reducible refine Kd.C_alloc ?_ _) | (with_reducible refine Kd.C_drewN ?_ _) | (with_reducible refine Kd.C_drew ?_))); (case side4 => exact (Kd.N_reads' HO298.out).2.1); (case side5 => repeat (first | exact (Kd.N_reads' HO301.out).2.2 | (with_reducible refine Kd.C_alloc ?_ _) | (with_reducible refine Kd.C_drewN ?_ _) | (with_reducible refine Kd.C_drew ?_))); (case side6 => exact (Kd.N_reads' HO301.out).2.1); rintro e w61 ⟨rfl, hb⟩; refine ⟨_, rfl, ?_⟩; replace HO272 := Aside0.mk (Kd.N_below (by (with_reducible repeat (first | apply Kd.N_alloc | apply Kd.N_drewN | apply Kd.N_drew)); exact HO272.out) hb); replace HO277 := Aside0.mk (Kd.N_below (by (with_reducible repeat (first | apply Kd.N_alloc | apply Kd.N_drewN | apply Kd.N_drew)); exact HO277.out) hb); replace HO282 := Aside0.mk (Kd.N_below (by (with_reducible repeat (first | apply Kd.N_alloc | apply Kd.N_drewN | apply Kd.N_drew)); exact HO282.out) hb); replace HO287 := cR HO287 hb; replace HO290 := Aside0.mk (Kd.N_below (by (with_reducible repeat (first | apply Kd.N_alloc | apply Kd.N_drewN | apply Kd.N_drew)); exact HO290.out) hb); replace HO295 := cR HO295 hb; replace HO298 := Aside0.mk (Kd.N_below (by (with_reducible repeat (first | apply Kd.N_alloc | apply Kd.N_drewN | apply Kd.N_drew)); exact HO298.out) hb); replace HO301 := Aside0.mk (Kd.N_below (by (with_reducible repeat (first | apply Kd.N_alloc | apply Kd.N_drewN | apply Kd.N_drew)); exact HO301.out) hb); replace BK269 := cB BK269 hb; replace BK274 := cB BK274 hb; replace HB := Aside0.mk (below_step (by repeat (first | (with_reducible first | exact HB.out | apply below_alloc | apply pw_below_drewN | apply below_drew1 | refine below_set ?_ GE269.out | refine below_set ?_ GE274.out) | exact HB.out)) hb); (try clear hb); have hcz62_0 : w61.cell? ⟨gb274, 0, none⟩ = some (.slice Ao25 t270.length co25) := (blk_cell BK274.out 0).trans rfl; have hfz62_0 := blk_frozen BK274.out 0) | ((with_reducible refine gate_dst (N := 55) rfl ?_); (try (refine gate_guard (by rfl) ?_; dsimp only)); refine Kd.N_lit k50 _ 50 ?hg (N' := 55) ?hd (xs := ([(⟨([] : List (S70))⟩ : S50), (⟨t270⟩ : S50)] : List (S50))) (inner := [.slice none 0 0, .slice Ao25 t270.length co25]) (ok := (fun k_ => some k_ ≠ (.slice Ao33 y275.length co33 : Value).ownBlock ∧ some k_ ≠ (.slice Ao39 y280.length co39 : Value).ownBlock ∧ some k_ ≠ (.slice Ao47 y285.length co47 : Value).ownBlock ∧ some k_ ≠ (.slice Ao48 y288.length co48 : Value).ownBlock ∧ some k_ ≠ (.slice Ao53 y293.length co53 : Value).ownBlock ∧ some k_ ≠ (.slice Ao59 y296.length co59 : Value).ownBlock ∧ some k_ ≠ (.slice Ao60 y299.length co60 : Value).ownBlock ∧ k_ ≠ gb269 ∧ k_ ≠ gb274)) (okp := (fun k_ => some k_ ≠ (.slice Ao33 y275.length co33 : Value).ownBlock ∧ some k_ ≠ (.slice Ao39 y280.length co39 : Value).ownBlock ∧ some k_ ≠ (.slice Ao47 y285.length co47 : Value).ownBlock ∧ some k_ ≠ (.slice Ao48 y288.length co48 : Value).ownBlock ∧ some k_ ≠ (.slice Ao53 y293.length co53 : Value).ownBlock ∧ some k_ ≠ (.slice Ao59 y296.length co59 : Value).ownBlock ∧ some k_ ≠ (.slice Ao60 y299.length co60 : Value).ownBlock ∧ k_ ≠ gb269 ∧ k_ ≠ gb274)) ?hr ?hp (fun _ hk => hk) ((show ∀ k_, w61.heap.size ≤ k_ → (fun k_ => some k_ ≠ (.slice Ao33 y275.length co33 : Value).ownBlock ∧ some k_ ≠ (.slice Ao39 y280.length co39 : Value).ownBlock ∧ some k_ ≠ (.slice Ao47 y285.length co47 : Value).ownBlock ∧ some k_ ≠ (.slice Ao48 y288.length co48 : Value).ownBlock ∧ some k_ ≠ (.slice Ao53 y293.length co53 : Value).ownBlock ∧ some k_ ≠ (.slice Ao59 y296.length co59 : Value).ownBlock ∧ some k_ ≠ (.slice Ao60 y299.length co60 : Value).ownBlock ∧ k_ ≠ gb269 ∧ k_ ≠ gb274) k_ from fun k_ hk => ⟨Kd.fresh' (Kd.N_lt (by (with_reducible repeat (first | apply Kd.N_alloc | apply Kd.N_drewN | apply Kd.N_drew)); exact HO277.out)) k_ hk, Kd.fresh' (Kd.N_lt (by (with_reducible repeat (first | apply Kd.N_alloc | apply Kd.N_drewN | apply Kd.N_drew)); exact HO282.out)) k_ hk, Kd.fresh' (Kd.R_lt (uR HO287.out)) k_ hk, Kd.fresh' (Kd.N_lt (by (with_reducible repeat (first | apply Kd.N_alloc | apply Kd.N_drewN | apply Kd.N_drew)); exact HO290.out)) k_ hk, Kd.fresh' (Kd.R_lt (uR HO295.out)) k_ hk, Kd.fresh' (Kd.N_lt (by (with_reducible repeat (first | apply Kd.N_alloc | apply Kd.N_drewN | apply Kd.N_drew)); exact HO298.out)) k_ hk, Kd.fresh' (Kd.N_lt (by (with_reducible repeat (first | apply Kd.N_alloc | apply Kd.N_drewN | apply Kd.N_drew)); exact HO301.out)) k_ hk, Kd.freshB (g := gb269) (o := .cells #[.int .i64 0, .int .i64 0, .int .i64 10, .int .i64 5, .int .i64 0] 23 (0, 0)) (uB BK269.out) k_ hk, Kd.freshB (g := gb274) (o := .cells #[.slice Ao25 t270.length co25] 50 (0, 0)) (uB BK274.out) k_ hk⟩) _ (Nat.le_refl _)) (Below.refl _ _) (Nat.le_refl _) (by simp) ?_; (case hd => rfl); (case hg => rfl); (case hr => first | (go_simp; done) | (go_simp; rfl)); (case hp => exact (Reps.one (show Kd.FK k50 _ _ (⟨([] : List (S70))⟩ : S50) [.slice none 0 0] from (k50_mkF _ _ (⟨([] : List (S70))⟩ : S50) (Nat.le_refl _) (Kd.F_nil _ _ _))) (Reps.one (show Kd.FK k50 _ _ (⟨t270⟩ : S50) [.slice Ao25 t270.length co25] from (k50_mkF _ _ (⟨t270⟩ : S50) (Kd.N_reads' (Kd.N_mono (ok' := (fun k_ => some k_ ≠ (.slice Ao33 y275.length co33 : Value).ownBlock ∧ some k_ ≠ (.slice Ao39 y280.length co39 : Value).ownBlock ∧ some k_ ≠ (.slice Ao47 y285.length co47 : Value).ownBlock ∧ some k_ ≠ (.slice Ao48 y288.length co48 : Value).ownBlock ∧ some k_ ≠ (.slice Ao53 y293.length co53 : Value).ownBlock ∧ some k_ ≠ (.slice Ao59 y296.length co59 : Value).ownBlock ∧ some k_ ≠ (.slice Ao60 y299.length co60 : Value).ownBlock ∧ k_ ≠ gb269 ∧ k_ ≠ gb274)) (HO272.out) (fun k_ hk => ⟨hk.1.1.1.1.1.1.2, ⟨hk.1.1.1.1.1.2, ⟨hk.1.1.1.1.2, ⟨hk.1.1.1.2, ⟨hk.1.1.2, ⟨hk.1.2, ⟨hk.2, ⟨hk.1.1.1.1.1.1.1.1, hk.1.1.1.1.1.1.1.2⟩⟩⟩⟩⟩⟩⟩⟩))).2.1 (Kd.N_F (Kd.N_mono (ok' := (fun k_ => some k_ ≠ (.slice Ao33 y275.length co33 : Value).ownBlock ∧ some k_ ≠ (.slice Ao39 y280.length co39 : Value).ownBlock ∧ some k_ ≠ (.slice Ao47 y285.length co47 : Value).ownBlock ∧ some k_ ≠ (.slice Ao48 y288.length co48 : Value).ownBlock ∧ some k_ ≠ (.slice Ao53 y293.length co53 : Value).ownBlock ∧ some k_ ≠ (.slice Ao59 y296.length co59 : Value).ownBlock ∧ some k_ ≠ (.slice Ao60 y299.length co60 : Value).ownBlock ∧ k_ ≠ gb269 ∧ k_ ≠ gb274)) (HO272.out) (fun k_ hk => ⟨hk.1.1.1.1.1.1.2, ⟨hk.1.1.1.1.1.2, ⟨hk.1.1.1.1.2, ⟨hk.1.1.1.2, ⟨hk.1.1.2, ⟨hk.1.2, ⟨hk.2, ⟨hk.1.1.1.1.1.1.1.1, hk.1.1.1.1.1.1.1.2⟩⟩⟩⟩⟩⟩⟩⟩))))) (Reps.none _ _)))); intro v305 w63 ho64 hb hg_ hnew_; clear hg_ hnew_; (first | rw [← Ny304.out] at ho64 | (simp only [Int.reduceToNat] at ho64; rw [← Ny304.out] at ho64)); replace HO272 := Aside0.mk (Kd.N_elder' (by (with_reducible repeat (first | apply Kd.N_alloc | apply Kd.N_drewN | apply Kd.N_drew)); exact HO272.out) (Kd.N_base ho64) hb); replace HO277 := Aside0.mk (Kd.N_elder' (by (with_reducible repeat (first | apply Kd.N_alloc | apply Kd.N_drewN | apply Kd.N_drew)); exact HO277.out) (Kd.N_base ho64) hb); replace HO282 := Aside0.mk (Kd.N_elder' (by (with_reducible repeat (first | apply Kd.N_alloc | apply Kd.N_drewN | apply Kd.N_drew)); exact HO282.out) (Kd.N_base ho64) hb); replace HO287 := cR HO287 hb; replace HO290 := Aside0.mk (Kd.N_elder' (by (with_reducible repeat (first | apply Kd.N_alloc | apply Kd.N_drewN | apply Kd.N_drew)); exact HO290.out) (Kd.N_base ho64) hb); replace HO295 := cR HO295 hb; replace HO298 := Aside0.mk (Kd.N_elder' (by (with_reducible repeat (first | apply Kd.N_alloc | apply Kd.N_drewN | apply Kd.N_drew)); exact HO298.out) (Kd.N_base ho64) hb); replace HO301 := Aside0.mk (Kd.N_elder' (by (with_reducible repeat (first | apply Kd.N_alloc | apply Kd.N_drewN | apply Kd.N_drew)); exact HO301.out) (Kd.N_base ho64) hb); have HO306 := Aside0.mk (Kd.N_lower ho64 (below_size (by repeat (first | (with_reducible first | exact HB.out | apply below_alloc | apply pw_below_drewN | apply below_drew1 | refine below_set ?_ GE269.out | refine below_set ?_ GE274.out) | exact HB.out)))); replace BK269 := cB BK269 hb; replace BK274 := cB BK274 hb; replace HB := Aside0.mk (below_step (by repeat (first | (with_reducible first | exact HB.out | apply below_alloc | apply pw_below_drewN | apply below_drew1 | refine below_set ?_ GE269.out | refine below_set ?_ GE274.out) | exact HB.out)) hb); clear hb ho64; obtain ⟨Ao65, co65, eo65⟩ := Kd.N_slice HO306.out; subst eo65) | ((with_reducible refine gate_callee (f := 12) rfl ?_); refine goesL_ (some 56) rfl rfl Try.func12 (by kernel_rfl) rfl #[.int .i64 2, .int .i64 9, .slice Ao65 y304.length co65] rfl (by (try simp only [List.map_toArray, List.map_cons, List.map_nil]); first | done | rfl | (simp only [List.length_drop, List.length_take]; rfl)) ?_; (with_reducible refine (emit_Take.calls k 2 9 _ _ y304 t307 t308 t309 _ ?side1 ?side2 A6.out).mono ?_); (case side1 => repeat (first | exact (Kd.N_reads' HO306.out).2.2 | (with_reducible refine Kd.C_alloc ?_ _) | (with_reducible refine Kd.C_drewN ?_ _) | (with_reducible refine Kd.C_drew ?_))); (case side2 => exact (Kd.N_reads' HO306.out).2.1); rintro e w66 ⟨v310, rfl, ho0, hb⟩; refine ⟨_, rfl, ?_⟩; replace HO272 := Aside0.mk (Kd.N_elder' (by (with_reducible repeat (first | apply Kd.N_alloc | apply Kd.N_drewN | apply Kd.N_drew)); exact HO272.out) (Kd.R_base ho0) hb); replace HO277 := Aside0.mk (Kd.N_elder' (by (with_reducible repeat (first | apply Kd.N_alloc | apply Kd.N_drewN | apply Kd.N_drew)); exact HO277.out) (Kd.R_base ho0) hb); replace HO282 := Aside0.mk (Kd.N_elder' (by (with_reducible repeat (first | apply Kd.N_alloc | apply Kd.N_drewN | apply Kd.N_drew)); exact HO282.out) (Kd.R_base ho0) hb); replace HO287 := cR HO287 hb; replace HO290 := Aside0.mk (Kd.N_elder' (by (with_reducible repeat (first | apply Kd.N_alloc | apply Kd.N_drewN | apply Kd.N_drew)); exact HO290.out) (Kd.R_base ho0) hb); replace HO295 := cR HO295 hb; replace HO298 := Aside0.mk (Kd.N_elder' (by (with_reducible repeat (first | apply Kd.N_alloc | apply Kd.N_drewN | apply Kd.N_drew)); exact HO298.out) (Kd.R_base ho0) hb); replace HO301 := Aside0.mk (Kd.N_elder' (by (with_reducible repeat (first | apply Kd.N_alloc | apply Kd.N_drewN | apply Kd.N_drew)); exact HO301.out) (Kd.R_base ho0) hb); replace HO306 := Aside0.mk (Kd.N_elder' (by (with_reducible repeat (first | apply Kd.N_alloc | apply Kd.N_drewN | apply Kd.N_drew)); exact HO306.out) (Kd.R_base ho0) hb); have HO311 := Aside0.mk (Kd.R_lower ho0 (below_size (by repeat (first | (with_reducible first | exact HB.out | apply below_alloc | apply pw_below_drewN | apply below_drew1 | refine below_set ?_ GE269.out | refine below_set ?_ GE274.out) | exact HB.out)))); replace BK269 := cB BK269 hb; replace BK274 := cB BK274 hb; replace HB := Aside0.mk (below_step (by repeat (first | (with_reducible first | exact HB.out | apply below_alloc | apply pw_below_drewN | apply below_drew1 | refine below_set ?_ GE269.out | refine below_set ?_ GE274.out) | exact HB.out)) hb); (try clear hb); (try clear ho0)) | ((with_reducible refine gate_dst (N := 12) rfl ?_); (try (refine gate_guard (by rfl) ?_; dsimp only)); refine box_event ?hg (N := 12) ?hd (cs := #[.int .i64 0, .int .i64 0, .slice none 0 0]) (t := 38) ?hr ?_; (case hd => rfl); (case hg => rfl); (case hr => first | (go_simp; done) | (go_simp; rfl)); intro gb312 hg w67 hbox hb; replace HO272 := Aside0.mk (Kd.N_below (Kd.N_elderB (by (with_reducible repeat (first | apply Kd.N_alloc | apply Kd.N_drewN | apply Kd.N_drew)); exact HO272.out) gb312 (Nat.le_of_eq hg.symm)) hb); replace HO277 := Aside0.mk (Kd.N_below (Kd.N_elderB (by (with_reducible repeat (first | apply Kd.N_alloc | apply Kd.N_drewN | apply Kd.N_drew)); exact HO277.out) gb312 (Nat.le_of_eq hg.symm)) hb); replace HO282 := Aside0.mk (Kd.N_below (Kd.N_elderB (by (with_reducible repeat (first | apply Kd.N_alloc | apply Kd.N_drewN | apply Kd.N_drew)); exact HO282.out) gb312 (Nat.le_of_eq hg.symm)) hb); replace HO287 := cR HO287 hb; replace HO290 := Aside0.mk (Kd.N_below (Kd.N_elderB (by (with_reducible repeat (first | apply Kd.N_alloc | apply Kd.N_drewN | apply Kd.N_drew)); exact HO290.out) gb312 (Nat.le_of_eq hg.symm)) hb); replace HO295 := cR HO295 hb; replace HO298 := Aside0.mk (Kd.N_below (Kd.N_elderB (by (with_reducible repeat (first | apply Kd.N_alloc | apply Kd.N_drewN | apply Kd.N_drew)); exact HO298.out) gb312 (Nat.le_of_eq hg.symm)) hb); replace HO301 := Aside0.mk (Kd.N_below (Kd.N_elderB (by (with_reducible repeat (first | apply Kd.N_alloc | apply Kd.N_drewN | apply Kd.N_drew)); exact HO301.out) gb312 (Nat.le_of_eq hg.symm)) hb); replace HO306 := Aside0.mk (Kd.N_below (Kd.N_elderB (by (with_reducible repeat (first | apply Kd.N_alloc | apply Kd.N_drewN | apply Kd.N_drew)); exact HO306.out) gb312 (Nat.le_of_eq hg.symm)) hb); replace HO311 := cR HO311 hb; have BK312 := Aside0.mk (hbox); have GW312 := Aside0.mk ((by rw [hg]; exact (below_size (by repeat (first | (with_reducible first | exact HB.out | apply below_alloc | apply pw_below_drewN | apply below_drew1 | refine below_set ?_ GE269.out | refine below_set ?_ GE274.out) | exact HB.out))) : w.heap.size ≤ gb312)); have GE312 := Aside0.mk ((by rw [hg]; exact (below_size (by repeat (first | (with_reducible first | exact HB.out | apply below_alloc | apply pw_below_drewN | apply below_drew1 | refine below_set ?_ GE269.out | refine below_set ?_ GE274.out) | exact HB.out))) : w.heap.size ≤ gb312)); replace HB := Aside0.mk (below_step (by repeat (first | (with_reducible first | exact HB.out | apply below_alloc | apply pw_below_drewN | apply below_drew1 | refine below_set ?_ GE269.out | refine below_set ?_ GE274.out) | exact HB.out)) hb); have NB269_312 := Aside0.mk ((by rw [hg]; exact Nat.ne_of_lt (blk_lt (g := gb269) (o := .cells #[.int .i64 0, .int .i64 0, .int .i64 10, .int .i64 5, .int .i64 0] 23 (0, 0)) (uB BK269.out)) : gb269 ≠ gb312)); have NB312_269 := Aside0.mk ((by rw [hg]; exact Nat.ne_of_gt (blk_lt (g := gb269) (o := .cells #[.int .i64 0, .int .i64 0, .int .i64 10, .int .i64 5, .int .i64 0] 23 (0, 0)) (uB BK269.out)) : gb312 ≠ gb269)); replace BK269 := cB BK269 hb; have NB274_312 := Aside0.mk ((by rw [hg]; exact Nat.ne_of_lt (blk_lt (g := gb274) (o := .cells #[.slice Ao25 t270.length co25] 50 (0, 0)) (uB BK274.out)) : gb274 ≠ gb312)); have NB312_274 := Aside0.mk ((by rw [hg]; exact Nat.ne_of_gt (blk_lt (g := gb274) (o := .cells #[.slice Ao25 t270.length co25] 50 (0, 0)) (uB BK274.out)) : gb312 ≠ gb274)); replace BK274 := cB BK274 hb; clear hb hbox hg; have hnb68 := NB312_269.out; have hnc68 := NB269_312.out; have hnb69 := NB312_274.out; have hnc69 := NB274_312.out; have hcz70_0 : w67.cell? ⟨gb312, 0, none⟩ = some (.int .i64 0) := (blk_cell BK312.out 0).trans rfl; have hcz70_1 : w67.cell? ⟨gb312, 1, none⟩ = some (.int .i64 0) := (blk_cell BK312.out 1).trans rfl; have hcz70_2 : w67.cell? ⟨gb312, 2, none⟩ = some (.slice none 0 0) := (blk_cell BK312.out 2).trans rfl; have hfz70_0 := blk_frozen BK312.out 0; have hfz70_1 := blk_frozen BK312.out 1; have hfz70_2 := blk_frozen BK312.out 2; obtain ⟨Ao71, co71, eo71⟩ := Kd.R_slice HO311.out; subst eo71))
          have n0_ : Aside0 (Kd.N k70 70 (((w67.setCell ⟨gb312, 0, none⟩ (.int .i64 t307)).setCell ⟨gb312, 1, none⟩ (.int .i64 t308)).setCell ⟨gb312, 2, none⟩ (.slice Ao71 t309.length co71)) w.heap.size (fun k_ => some k_ ≠ (.slice Ao33 y275.length co33 : Value).ownBlock ∧ some k_ ≠ (.slice Ao39 y280.length co39 : Value).ownBlock ∧ some k_ ≠ (.slice Ao47 y285.length co47 : Value).ownBlock ∧ some k_ ≠ (.slice Ao48 y288.length co48 : Value).ownBlock ∧ some k_ ≠ (.slice Ao53 y293.length co53 : Value).ownBlock ∧ some k_ ≠ (.slice Ao59 y296.length co59 : Value).ownBlock ∧ some k_ ≠ (.slice Ao60 y299.length co60 : Value).ownBlock ∧ some k_ ≠ (.slice Ao65 y304.length co65 : Value).ownBlock ∧ some k_ ≠ (.slice Ao71 t309.length co71 : Value).ownBlock ∧ k_ ≠ gb269 ∧ k_ ≠ gb274 ∧ k_ ≠ gb312) (.slice Ao25 t270.length co25) t270) := ⟨by (with_reducible repeat (first | apply Kd.N_alloc | apply Kd.N_drewN | apply Kd.N_drew)); exact Kd.N_mono (Kd.N_far (p := ⟨gb312, 2, none⟩) (Kd.N_far (p := ⟨gb312, 1, none⟩) (Kd.N_far (p := ⟨gb312, 0, none⟩) (Kd.N_mono HO272.out (fun k_ hk => (⟨hk, hk.2⟩ : _ ∧ k_ ≠ gb312))) (fun _ hk => hk.2) (.int .i64 t307)) (fun _ hk => hk.2) (.int .i64 t308)) (fun _ hk => hk.2) (.slice Ao71 t309.length co71)) (fun _ hk => ⟨hk.1.1.1.1.1.1.1.1.1.1.2, ⟨hk.1.1.1.1.1.1.1.1.1.2, ⟨hk.1.1.1.1.1.1.1.1.2, ⟨hk.1.1.1.1.1.1.1.2, ⟨hk.1.1.1.1.1.1.2, ⟨hk.1.1.1.1.1.2, ⟨hk.1.1.1.1.2, ⟨hk.1.1.1.2, ⟨hk.1.1.2, ⟨hk.1.1.1.1.1.1.1.1.1.1.1.1, ⟨hk.1.1.1.1.1.1.1.1.1.1.1.2, hk.1.2⟩⟩⟩⟩⟩⟩⟩⟩⟩⟩⟩)⟩
          have n1_ : Aside0 (Kd.N k50 50 (((w67.setCell ⟨gb312, 0, none⟩ (.int .i64 t307)).setCell ⟨gb312, 1, none⟩ (.int .i64 t308)).setCell ⟨gb312, 2, none⟩ (.slice Ao71 t309.length co71)) w.heap.size (fun k_ => some k_ ≠ (.slice Ao39 y280.length co39 : Value).ownBlock ∧ some k_ ≠ (.slice Ao47 y285.length co47 : Value).ownBlock ∧ some k_ ≠ (.slice Ao48 y288.length co48 : Value).ownBlock ∧ some k_ ≠ (.slice Ao53 y293.length co53 : Value).ownBlock ∧ some k_ ≠ (.slice Ao59 y296.length co59 : Value).ownBlock ∧ some k_ ≠ (.slice Ao60 y299.length co60 : Value).ownBlock ∧ some k_ ≠ (.slice Ao65 y304.length co65 : Value).ownBlock ∧ some k_ ≠ (.slice Ao71 t309.length co71 : Value).ownBlock ∧ k_ ≠ gb269 ∧ k_ ≠ gb274 ∧ k_ ≠ gb312) (.slice Ao33 y275.length co33) y275) := ⟨by (with_reducible repeat (first | apply Kd.N_alloc | apply Kd.N_drewN | apply Kd.N_drew)); exact Kd.N_mono (Kd.N_far (p := ⟨gb312, 2, none⟩) (Kd.N_far (p := ⟨gb312, 1, none⟩) (Kd.N_far (p := ⟨gb312, 0, none⟩) (Kd.N_mono HO277.out (fun k_ hk => (⟨hk, hk.2⟩ : _ ∧ k_ ≠ gb312))) (fun _ hk => hk.2) (.int .i64 t307)) (fun _ hk => hk.2) (.int .i64 t308)) (fun _ hk => hk.2) (.slice Ao71 t309.length co71)) (fun _ hk => ⟨hk.1.1.1.1.1.1.1.1.1.2, ⟨hk.1.1.1.1.1.1.1.1.2, ⟨hk.1.1.1.1.1.1.1.2, ⟨hk.1.1.1.1.1.1.2, ⟨hk.1.1.1.1.1.2, ⟨hk.1.1.1.1.2, ⟨hk.1.1.1.2, ⟨hk.1.1.2, ⟨hk.1.1.1.1.1.1.1.1.1.1.1, ⟨hk.1.1.1.1.1.1.1.1.1.1.2, hk.1.2⟩⟩⟩⟩⟩⟩⟩⟩⟩⟩)⟩
          have n2_ : Aside0 (Kd.N k50 50 (((w67.setCell ⟨gb312, 0, none⟩ (.int .i64 t307)).setCell ⟨gb312, 1, none⟩ (.int .i64 t308)).setCell ⟨gb312, 2, none⟩ (.slice Ao71 t309.length co71)) w.heap.size (fun k_ => some k_ ≠ (.slice Ao33 y275.length co33 : Value).ownBlock ∧ some k_ ≠ (.slice Ao47 y285.length co47 : Value).ownBlock ∧ some k_ ≠ (.slice Ao48 y288.length co48 : Value).ownBlock ∧ some k_ ≠ (.slice Ao53 y293.length co53 : Value).ownBlock ∧ some k_ ≠ (.slice Ao59 y296.length co59 : Value).ownBlock ∧ some k_ ≠ (.slice Ao60 y299.length co60 : Value).ownBlock ∧ some k_ ≠ (.slice Ao65 y304.length co65 : Value).ownBlock ∧ some k_ ≠ (.slice Ao71 t309.length co71 : Value).ownBlock ∧ k_ ≠ gb269 ∧ k_ ≠ gb274 ∧ k_ ≠ gb312) (.slice Ao39 y280.length co39) y280) := ⟨by (with_reducible repeat (first | apply Kd.N_alloc | apply Kd.N_drewN | apply Kd.N_drew)); exact Kd.N_mono (Kd.N_far (p := ⟨gb312, 2, none⟩) (Kd.N_far (p := ⟨gb312, 1, none⟩) (Kd.N_far (p := ⟨gb312, 0, none⟩) (Kd.N_mono HO282.out (fun k_ hk => (⟨hk, hk.2⟩ : _ ∧ k_ ≠ gb312))) (fun _ hk => hk.2) (.int .i64 t307)) (fun _ hk => hk.2) (.int .i64 t308)) (fun _ hk => hk.2) (.slice Ao71 t309.length co71)) (fun _ hk => ⟨hk.1.1.1.1.1.1.1.1.1.1, ⟨hk.1.1.1.1.1.1.1.1.2, ⟨hk.1.1.1.1.1.1.1.2, ⟨hk.1.1.1.1.1.1.2, ⟨hk.1.1.1.1.1.2, ⟨hk.1.1.1.1.2, ⟨hk.1.1.1.2, ⟨hk.1.1.2, ⟨hk.1.1.1.1.1.1.1.1.1.2.1, ⟨hk.1.1.1.1.1.1.1.1.1.2.2, hk.1.2⟩⟩⟩⟩⟩⟩⟩⟩⟩⟩)⟩
          have n3_ : Aside0 (Kd.R k46 46 (((w67.setCell ⟨gb312, 0, none⟩ (.int .i64 t307)).setCell ⟨gb312, 1, none⟩ (.int .i64 t308)).setCell ⟨gb312, 2, none⟩ (.slice Ao71 t309.length co71)) w.heap.size (fun _ => True) (.slice Ao47 y285.length co47) y285) := ⟨by exact uR <| Kd.R_mono (Kd.R_far (p := ⟨gb312, 2, none⟩) (Kd.R_far (p := ⟨gb312, 1, none⟩) (Kd.R_far (p := ⟨gb312, 0, none⟩) (Kd.R_types HO287.out BK312.out (by decide)) (fun _ hk => hk.2) (.int .i64 t307)) (fun _ hk => hk.2) (.int .i64 t308)) (fun _ hk => hk.2) (.slice Ao71 t309.length co71)) (fun _ hk => trivial)⟩
          have n4_ : Aside0 (Kd.N k50 50 (((w67.setCell ⟨gb312, 0, none⟩ (.int .i64 t307)).setCell ⟨gb312, 1, none⟩ (.int .i64 t308)).setCell ⟨gb312, 2, none⟩ (.slice Ao71 t309.length co71)) w.heap.size (fun k_ => some k_ ≠ (.slice Ao33 y275.length co33 : Value).ownBlock ∧ some k_ ≠ (.slice Ao39 y280.length co39 : Value).ownBlock ∧ some k_ ≠ (.slice Ao47 y285.length co47 : Value).ownBlock ∧ some k_ ≠ (.slice Ao53 y293.length co53 : Value).ownBlock ∧ some k_ ≠ (.slice Ao59 y296.length co59 : Value).ownBlock ∧ some k_ ≠ (.slice Ao60 y299.length co60 : Value).ownBlock ∧ some k_ ≠ (.slice Ao65 y304.length co65 : Value).ownBlock ∧ some k_ ≠ (.slice Ao71 t309.length co71 : Value).ownBlock ∧ k_ ≠ gb269 ∧ k_ ≠ gb274 ∧ k_ ≠ gb312) (.slice Ao48 y288.length co48) y288) := ⟨by (with_reducible repeat (first | apply Kd.N_alloc | apply Kd.N_drewN | apply Kd.N_drew)); exact Kd.N_mono (Kd.N_far (p := ⟨gb312, 2, none⟩) (Kd.N_far (p := ⟨gb312, 1, none⟩) (Kd.N_far (p := ⟨gb312, 0, none⟩) (Kd.N_mono HO290.out (fun k_ hk => (⟨hk, hk.2⟩ : _ ∧ k_ ≠ gb312))) (fun _ hk => hk.2) (.int .i64 t307)) (fun _ hk => hk.2) (.int .i64 t308)) (fun _ hk => hk.2) (.slice Ao71 t309.length co71)) (fun _ hk => ⟨hk.1.1.1.1.1.1.1.1, ⟨hk.1.1.1.1.1.1.1.2.1, ⟨hk.1.1.1.1.1.1.1.2.2.1, ⟨hk.1.1.1.1.1.1.2, ⟨hk.1.1.1.1.1.2, ⟨hk.1.1.1.1.2, ⟨hk.1.1.1.2, ⟨hk.1.1.2, ⟨hk.1.1.1.1.1.1.1.2.2.2.1, ⟨hk.1.1.1.1.1.1.1.2.2.2.2, hk.1.2⟩⟩⟩⟩⟩⟩⟩⟩⟩⟩)⟩
          have n5_ : Aside0 (Kd.R k61 61 (((w67.setCell ⟨gb312, 0, none⟩ (.int .i64 t307)).setCell ⟨gb312, 1, none⟩ (.int .i64 t308)).setCell ⟨gb312, 2, none⟩ (.slice Ao71 t309.length co71)) w.heap.size (fun _ => True) (.slice Ao53 y293.length co53) y293) := ⟨by exact uR <| Kd.R_mono (Kd.R_far (p := ⟨gb312, 2, none⟩) (Kd.R_far (p := ⟨gb312, 1, none⟩) (Kd.R_far (p := ⟨gb312, 0, none⟩) (Kd.R_types HO295.out BK312.out (by decide)) (fun _ hk => hk.2) (.int .i64 t307)) (fun _ hk => hk.2) (.int .i64 t308)) (fun _ hk => hk.2) (.slice Ao71 t309.length co71)) (fun _ hk => trivial)⟩
          have n6_ : Aside0 (Kd.N (Kd.slice 61 k61) 62 (((w67.setCell ⟨gb312, 0, none⟩ (.int .i64 t307)).setCell ⟨gb312, 1, none⟩ (.int .i64 t308)).setCell ⟨gb312, 2, none⟩ (.slice Ao71 t309.length co71)) w.heap.size (fun k_ => some k_ ≠ (.slice Ao25 t270.length co25 : Value).ownBlock ∧ some k_ ≠ (.slice Ao33 y275.length co33 : Value).ownBlock ∧ some k_ ≠ (.slice Ao39 y280.length co39 : Value).ownBlock ∧ some k_ ≠ (.slice Ao47 y285.length co47 : Value).ownBlock ∧ some k_ ≠ (.slice Ao48 y288.length co48 : Value).ownBlock ∧ some k_ ≠ (.slice Ao60 y299.length co60 : Value).ownBlock ∧ some k_ ≠ (.slice Ao65 y304.length co65 : Value).ownBlock ∧ some k_ ≠ (.slice Ao71 t309.length co71 : Value).ownBlock ∧ k_ ≠ gb269 ∧ k_ ≠ gb274 ∧ k_ ≠ gb312) (.slice Ao59 y296.length co59) y296) := ⟨by (with_reducible repeat (first | apply Kd.N_alloc | apply Kd.N_drewN | apply Kd.N_drew)); exact Kd.N_mono (Kd.N_far (p := ⟨gb312, 2, none⟩) (Kd.N_far (p := ⟨gb312, 1, none⟩) (Kd.N_far (p := ⟨gb312, 0, none⟩) (Kd.N_mono HO298.out (fun k_ hk => (⟨hk, hk.2⟩ : _ ∧ k_ ≠ gb312))) (fun _ hk => hk.2) (.int .i64 t307)) (fun _ hk => hk.2) (.int .i64 t308)) (fun _ hk => hk.2) (.slice Ao71 t309.length co71)) (fun _ hk => ⟨hk.1.1.1.1.1.1, ⟨hk.1.1.1.1.1.2.1, ⟨hk.1.1.1.1.1.2.2.1, ⟨hk.1.1.1.1.1.2.2.2.1, ⟨hk.1.1.1.1.1.2.2.2.2.1, ⟨hk.1.1.1.1.2, ⟨hk.1.1.1.2, ⟨hk.1.1.2, ⟨hk.1.1.1.1.1.2.2.2.2.2.1, ⟨hk.1.1.1.1.1.2.2.2.2.2.2, hk.1.2⟩⟩⟩⟩⟩⟩⟩⟩⟩⟩)⟩
          have n7_ : Aside0 (Kd.N k50 50 (((w67.setCell ⟨gb312, 0, none⟩ (.int .i64 t307)).setCell ⟨gb312, 1, none⟩ (.int .i64 t308)).setCell ⟨gb312, 2, none⟩ (.slice Ao71 t309.length co71)) w.heap.size (fun k_ => some k_ ≠ (.slice Ao33 y275.length co33 : Value).ownBlock ∧ some k_ ≠ (.slice Ao39 y280.length co39 : Value).ownBlock ∧ some k_ ≠ (.slice Ao47 y285.length co47 : Value).ownBlock ∧ some k_ ≠ (.slice Ao48 y288.length co48 : Value).ownBlock ∧ some k_ ≠ (.slice Ao53 y293.length co53 : Value).ownBlock ∧ some k_ ≠ (.slice Ao59 y296.length co59 : Value).ownBlock ∧ some k_ ≠ (.slice Ao65 y304.length co65 : Value).ownBlock ∧ some k_ ≠ (.slice Ao71 t309.length co71 : Value).ownBlock ∧ k_ ≠ gb269 ∧ k_ ≠ gb274 ∧ k_ ≠ gb312) (.slice Ao60 y299.length co60) y299) := ⟨by (with_reducible repeat (first | apply Kd.N_alloc | apply Kd.N_drewN | apply Kd.N_drew)); exact Kd.N_mono (Kd.N_far (p := ⟨gb312, 2, none⟩) (Kd.N_far (p := ⟨gb312, 1, none⟩) (Kd.N_far (p := ⟨gb312, 0, none⟩) (Kd.N_mono HO301.out (fun k_ hk => (⟨hk, hk.2⟩ : _ ∧ k_ ≠ gb312))) (fun _ hk => hk.2) (.int .i64 t307)) (fun _ hk => hk.2) (.int .i64 t308)) (fun _ hk => hk.2) (.slice Ao71 t309.length co71)) (fun _ hk => ⟨hk.1.1.1.1.1, ⟨hk.1.1.1.1.2.1, ⟨hk.1.1.1.1.2.2.1, ⟨hk.1.1.1.1.2.2.2.1, ⟨hk.1.1.1.1.2.2.2.2.1, ⟨hk.1.1.1.1.2.2.2.2.2.1, ⟨hk.1.1.1.2, ⟨hk.1.1.2, ⟨hk.1.1.1.1.2.2.2.2.2.2.1, ⟨hk.1.1.1.1.2.2.2.2.2.2.2, hk.1.2⟩⟩⟩⟩⟩⟩⟩⟩⟩⟩)⟩
          have n8_ : Aside0 (Kd.N k50 50 (((w67.setCell ⟨gb312, 0, none⟩ (.int .i64 t307)).setCell ⟨gb312, 1, none⟩ (.int .i64 t308)).setCell ⟨gb312, 2, none⟩ (.slice Ao71 t309.length co71)) w.heap.size (fun k_ => some k_ ≠ (.slice Ao33 y275.length co33 : Value).ownBlock ∧ some k_ ≠ (.slice Ao39 y280.length co39 : Value).ownBlock ∧ some k_ ≠ (.slice Ao47 y285.length co47 : Value).ownBlock ∧ some k_ ≠ (.slice Ao48 y288.length co48 : Value).ownBlock ∧ some k_ ≠ (.slice Ao53 y293.length co53 : Value).ownBlock ∧ some k_ ≠ (.slice Ao59 y296.length co59 : Value).ownBlock ∧ some k_ ≠ (.slice Ao60 y299.length co60 : Value).ownBlock ∧ some k_ ≠ (.slice Ao71 t309.length co71 : Value).ownBlock ∧ k_ ≠ gb269 ∧ k_ ≠ gb274 ∧ k_ ≠ gb312) (.slice Ao65 y304.length co65) y304) := ⟨by (with_reducible repeat (first | apply Kd.N_alloc | apply Kd.N_drewN | apply Kd.N_drew)); exact Kd.N_mono (Kd.N_far (p := ⟨gb312, 2, none⟩) (Kd.N_far (p := ⟨gb312, 1, none⟩) (Kd.N_far (p := ⟨gb312, 0, none⟩) (Kd.N_mono HO306.out (fun k_ hk => (⟨hk, hk.2⟩ : _ ∧ k_ ≠ gb312))) (fun _ hk => hk.2) (.int .i64 t307)) (fun _ hk => hk.2) (.int .i64 t308)) (fun _ hk => hk.2) (.slice Ao71 t309.length co71)) (fun _ hk => ⟨hk.1.1.1.1, ⟨hk.1.1.1.2.1, ⟨hk.1.1.1.2.2.1, ⟨hk.1.1.1.2.2.2.1, ⟨hk.1.1.1.2.2.2.2.1, ⟨hk.1.1.1.2.2.2.2.2.1, ⟨hk.1.1.1.2.2.2.2.2.2.1, ⟨hk.1.1.2, ⟨hk.1.1.1.2.2.2.2.2.2.2.1, ⟨hk.1.1.1.2.2.2.2.2.2.2.2, hk.1.2⟩⟩⟩⟩⟩⟩⟩⟩⟩⟩)⟩
          have n9_ : Aside0 (Kd.R k56 56 (((w67.setCell ⟨gb312, 0, none⟩ (.int .i64 t307)).setCell ⟨gb312, 1, none⟩ (.int .i64 t308)).setCell ⟨gb312, 2, none⟩ (.slice Ao71 t309.length co71)) w.heap.size (fun _ => True) (.slice Ao71 t309.length co71) t309) := ⟨by exact uR <| Kd.R_mono (Kd.R_far (p := ⟨gb312, 2, none⟩) (Kd.R_far (p := ⟨gb312, 1, none⟩) (Kd.R_far (p := ⟨gb312, 0, none⟩) (Kd.R_types HO311.out BK312.out (by decide)) (fun _ hk => hk.2) (.int .i64 t307)) (fun _ hk => hk.2) (.int .i64 t308)) (fun _ hk => hk.2) (.slice Ao71 t309.length co71)) (fun _ hk => trivial)⟩
          have n10_ : Aside0 ((((w67.setCell ⟨gb312, 0, none⟩ (.int .i64 t307)).setCell ⟨gb312, 1, none⟩ (.int .i64 t308)).setCell ⟨gb312, 2, none⟩ (.slice Ao71 t309.length co71)).heap[gb269]? = some (.cells #[.int .i64 0, .int .i64 0, .int .i64 10, .int .i64 5, .int .i64 0] 23 (0, 0))) := ⟨by (with_reducible repeat (first | refine blk_drewN ?_ _ | refine blk_drew ?_ | refine blk_alloc ?_ _)); refine blk_far ?_ NB269_312.out _; (with_reducible repeat (first | refine blk_drewN ?_ _ | refine blk_drew ?_ | refine blk_alloc ?_ _)); refine blk_far ?_ NB269_312.out _; (with_reducible repeat (first | refine blk_drewN ?_ _ | refine blk_drew ?_ | refine blk_alloc ?_ _)); refine blk_far ?_ NB269_312.out _; exact uB <| BK269.out⟩
          have n11_ : Aside0 ((((w67.setCell ⟨gb312, 0, none⟩ (.int .i64 t307)).setCell ⟨gb312, 1, none⟩ (.int .i64 t308)).setCell ⟨gb312, 2, none⟩ (.slice Ao71 t309.length co71)).heap[gb274]? = some (.cells #[.slice Ao25 t270.length co25] 50 (0, 0))) := ⟨by (with_reducible repeat (first | refine blk_drewN ?_ _ | refine blk_drew ?_ | refine blk_alloc ?_ _)); refine blk_far ?_ NB274_312.out _; (with_reducible repeat (first | refine blk_drewN ?_ _ | refine blk_drew ?_ | refine blk_alloc ?_ _)); refine blk_far ?_ NB274_312.out _; (with_reducible repeat (first | refine blk_drewN ?_ _ | refine blk_drew ?_ | refine blk_alloc ?_ _)); refine blk_far ?_ NB274_312.out _; exact uB <| BK274.out⟩
          have n12_ : Aside0 ((((w67.setCell ⟨gb312, 0, none⟩ (.int .i64 t307)).setCell ⟨gb312, 1, none⟩ (.int .i64 t308)).setCell ⟨gb312, 2, none⟩ (.slice Ao71 t309.length co71)).heap[gb312]? = some (.cells #[.int .i64 t307, .int .i64 t308, .slice Ao71 t309.length co71] 38 (0, 0))) := ⟨by (with_reducible repeat (first | refine blk_drewN ?_ _ | refine blk_drew ?_ | refine blk_alloc ?_ _)); refine blk_put (cs := #[.int .i64 t307, .int .i64 t308, .slice none 0 0]) ?_ 2 _ rfl; (with_reducible repeat (first | refine blk_drewN ?_ _ | refine blk_drew ?_ | refine blk_alloc ?_ _)); refine blk_put (cs := #[.int .i64 t307, .int .i64 0, .slice none 0 0]) ?_ 1 _ rfl; (with_reducible repeat (first | refine blk_drewN ?_ _ | refine blk_drew ?_ | refine blk_alloc ?_ _)); refine blk_put (cs := #[.int .i64 0, .int .i64 0, .slice none 0 0]) ?_ 0 _ rfl; exact uB <| BK312.out⟩
          have n13_ : Aside0 (Below w.heap.size w (((w67.setCell ⟨gb312, 0, none⟩ (.int .i64 t307)).setCell ⟨gb312, 1, none⟩ (.int .i64 t308)).setCell ⟨gb312, 2, none⟩ (.slice Ao71 t309.length co71))) := ⟨by repeat (first | (with_reducible first | exact HB.out | apply below_alloc | apply pw_below_drewN | apply below_drew1 | refine below_set ?_ GE269.out | refine below_set ?_ GE274.out | refine below_set ?_ GE312.out) | exact HB.out)⟩
          (try clear HO272)
          (try clear HO277)
          (try clear HO282)
          (try clear HO287)
          (try clear HO290)
          (try clear HO295)
          (try clear HO298)
          (try clear HO301)
          (try clear HO306)
          (try clear HO311)
          (try clear BK269)
          (try clear BK274)
          (try clear BK312)
          (try clear HB)
          generalize (((w67.setCell ⟨gb312, 0, none⟩ (.int .i64 t307)).setCell ⟨gb312, 1, none⟩ (.int .i64 t308)).setCell ⟨gb312, 2, none⟩ (.slice Ao71 t309.length co71)) = w72 at n0_ n1_ n2_ n3_ n4_ n5_ n6_ n7_ n8_ n9_ n10_ n11_ n12_ n13_ ⊢
          have HO272 := n0_
          have HO277 := n1_
          have HO282 := n2_
          have HO287 := n3_
          have HO290 := n4_
          have HO295 := n5_
          have HO298 := n6_
          have HO301 := n7_
          have HO306 := n8_
          have HO311 := n9_
          have BK269 := n10_
          have BK274 := n11_
          have BK312 := n12_
          have HB := n13_
          clear n0_ n1_ n2_ n3_ n4_ n5_ n6_ n7_ n8_ n9_ n10_ n11_ n12_ n13_
          have n0_ := Aside0.mk (Kd.N_drew HO272.out)
          have n1_ := Aside0.mk (Kd.N_drew HO277.out)
          have n2_ := Aside0.mk (Kd.N_drew HO282.out)
          have n3_ := Aside0.mk (Kd.R_drew HO287.out)
          have n4_ := Aside0.mk (Kd.N_drew HO290.out)
          have n5_ := Aside0.mk (Kd.R_drew HO295.out)
          have n6_ := Aside0.mk (Kd.N_drew HO298.out)
          have n7_ := Aside0.mk (Kd.N_drew HO301.out)
          have n8_ := Aside0.mk (Kd.N_drew HO306.out)
          have n9_ := Aside0.mk (Kd.R_drew HO311.out)
          have n10_ := Aside0.mk (blk_drew BK269.out)
          have n11_ := Aside0.mk (blk_drew BK274.out)
          have n12_ := Aside0.mk (blk_drew BK312.out)
          have n13_ := Aside0.mk (below_drew1 HB.out)
          clear HO272
          clear HO277
          clear HO282
          clear HO287
          clear HO290
          clear HO295
          clear HO298
          clear HO301
          clear HO306
          clear HO311
          clear BK269
          clear BK274
          clear BK312
          clear HB
          have HO272 := n0_
          have HO277 := n1_
          have HO282 := n2_
          have HO287 := n3_
          have HO290 := n4_
          have HO295 := n5_
          have HO298 := n6_
          have HO301 := n7_
          have HO306 := n8_
          have HO311 := n9_
          have BK269 := n10_
          have BK274 := n11_
          have BK312 := n12_
          have HB := n13_
          clear n0_ n1_ n2_ n3_ n4_ n5_ n6_ n7_ n8_ n9_ n10_ n11_ n12_ n13_
          refine start_ (n := 48) (S := fun w' => w'.cell? ⟨gb312, 0, none⟩ = some (.int .i64 t307) ∧ w'.cell? ⟨gb312, 1, none⟩ = some (.int .i64 t308) ∧ w'.cell? ⟨gb312, 2, none⟩ = some (.slice Ao71 t309.length co71)) (ds := []) #[false, false, false, false, false, false, false, false, false, false, false, false, false, false, false, false, false, false, false, false, false, false, false, false, false, false, false, false, false, false, false, false, false, false, false, false, false, false, false, false, false, false, false, false, false, false, false, false] (by kernel_rfl) rfl rfl ⟨(blk_cell BK312.out 0).trans rfl, (blk_cell BK312.out 1).trans rfl, (blk_cell BK312.out 2).trans rfl⟩ (fun hHeld => ?_); refine with_tabW ebbtidelaw17_alive.tab8 ebbtidelaw17_alive.bits8 (fun HT_ HW_ => ?_)
          generalize w72.drew = w73 at HO272 HO277 HO282 HO287 HO290 HO295 HO298 HO301 HO306 HO311 BK269 BK274 BK312 HB hHeld ⊢
          refine pu 0 (some 57) rfl rfl (ao HT_) (fun _ _ _ h => h) ya aa ?_
          refine pu 1 (some 58) rfl rfl (ao HT_) (fun _ _ _ h => h) ya aa ?_
          refine pu 2 (some 59) rfl rfl (ao HT_) (fun _ _ _ h => h) ya aa ?_
          refine pu 3 (some 60) rfl rfl (ao HT_) (fun _ _ _ h => h) ya aa ?_
          refine pu 4 (some 61) rfl rfl (ao HT_) (fun _ _ _ h => h) ya aa ?_
          refine pu 5 (some 62) rfl rfl (ao HT_) (fun _ _ _ h => h) ya aa ?_
          refine pu 6 (some 63) rfl rfl (ao HT_) (fun _ _ _ h => h) ya aa ?_
          refine pu 7 (some 64) rfl rfl (ao HT_) (fun _ _ _ h => h) ya aa ?_
          refine pu 8 (some 65) rfl rfl (ao HT_) (fun _ _ _ h => h) ya aa ?_
          refine pu 9 (some 66) rfl rfl (ao HT_) (fun _ _ _ h => h) ya aa ?_
          refine pu 10 (some 67) rfl rfl (ao HT_) (fun _ _ _ h => h) ya aa ?_
          refine pu 11 (some 68) rfl rfl (ao HT_) (fun _ _ _ h => h) ya aa ?_
          refine pu 12 (some 69) rfl rfl (ao HT_) (fun _ _ _ h => h) ya aa ?_
          refine pu 13 (some 70) rfl rfl (ao HT_) (fun _ _ _ h => h) ya aa ?_
          refine pu 14 (some 71) rfl rfl (ao HT_) (fun _ _ _ h => h) ya aa ?_
          refine pu 15 (some 72) rfl rfl (ao HT_) (fun _ _ _ h => h) ya aa ?_
          refine pu 16 (some 73) rfl rfl (ao HT_) (fun _ _ _ h => h) ya aa ?_
          refine pu 17 (some 74) rfl rfl (ao HT_) (fun _ _ _ h => h) ya aa ?_
          refine pu 18 (some 75) rfl rfl (ao HT_) (fun _ _ _ h => h) ya aa ?_
          refine tk 19 (some 76) rfl rfl (tw HT_ HW_) (fun _ _ _ h => h) (Or.inl ⟨by rfl, by rintro w' ⟨s0, s1, s2⟩; go_simp; with_reducible rfl⟩) hHeld aa ?_
          refine pu 20 (some 77) rfl rfl (ao HT_) (fun _ _ _ h => h) ya aa ?_
          refine pu 21 (some 78) rfl rfl (ao HT_) (fun _ _ _ h => h) ya aa ?_
          refine pu 22 (some 79) rfl rfl (ao HT_) (fun _ _ _ h => h) ya aa ?_
          refine pu 23 (some 80) rfl rfl (ao HT_) (fun _ _ _ h => h) ya aa ?_
          refine tk 24 (some 81) rfl rfl (tw HT_ HW_) (fun _ _ _ h => h) (Or.inl ⟨by rfl, by rintro w' ⟨s0, s1, s2⟩; go_simp; with_reducible rfl⟩) hHeld aa ?_
          refine pu 25 (some 82) rfl rfl (ao HT_) (fun _ _ _ h => h) ya aa ?_
          refine pu 26 (some 83) rfl rfl (ao HT_) (fun _ _ _ h => h) ya aa ?_
          refine pu 27 (some 84) rfl rfl (ao HT_) (fun _ _ _ h => h) ya aa ?_
          refine pu 28 (some 85) rfl rfl (ao HT_) (fun _ _ _ h => h) ya aa ?_
          refine tk 29 (some 86) rfl rfl (tw HT_ HW_) (fun _ _ _ h => h) (Or.inl ⟨by rfl, by rintro w' ⟨s0, s1, s2⟩; go_simp; with_reducible rfl⟩) hHeld aa ?_
          refine one_ (i := 30) (N := some 87) #[true, true, true, true, true, true, true, true, true, true, true, true, true, true, true, true, true, true, true, true, true, true, true, true, true, true, true, true, true, true, true, false, false, false, false, false, false, false, false, false, false, false, false, false, false, false, false, false] rfl rfl (one_of HT_.out (by kernel_rfl)) (by decide) (fun K hK => ?_)
          refine Kd.R_lit_step (Kd.int .i64) _ 2 ?hg (N := 87) ?hd (xs := ([3] : List Int)) (inner := [.int .i64 3]) (ok := fun _ => True) (okp := fun _ => True) ?hr ?hp (fun _ hk => hk) trivial (Below.refl _ _) (Nat.le_refl _) (by simp) ?_; (case hd => rfl); (case hg => rfl); (case hr => first | (go_simp; done) | (go_simp; rfl)); (case hp => exact (Reps.one (show Kd.M (Kd.int .i64) _ _ _ 3 [.int .i64 3] from rfl) (Reps.none _ _)))
          intro v314 w74 ho75 hb hg_ hnew_
          clear hg_ hnew_
          (first | rw [← Ny313.out] at ho75 | (simp only [Int.reduceToNat] at ho75; rw [← Ny313.out] at ho75))
          have n0_ := Aside0.mk (Kd.N_elder' (by (with_reducible repeat (first | apply Kd.N_alloc | apply Kd.N_drewN | apply Kd.N_drew)); exact HO272.out) (Kd.R_base ho75) hb)
          have n1_ := Aside0.mk (Kd.N_elder' (by (with_reducible repeat (first | apply Kd.N_alloc | apply Kd.N_drewN | apply Kd.N_drew)); exact HO277.out) (Kd.R_base ho75) hb)
          have n2_ := Aside0.mk (Kd.N_elder' (by (with_reducible repeat (first | apply Kd.N_alloc | apply Kd.N_drewN | apply Kd.N_drew)); exact HO282.out) (Kd.R_base ho75) hb)
          have n3_ := cR HO287 hb
          have n4_ := Aside0.mk (Kd.N_elder' (by (with_reducible repeat (first | apply Kd.N_alloc | apply Kd.N_drewN | apply Kd.N_drew)); exact HO290.out) (Kd.R_base ho75) hb)
          have n5_ := cR HO295 hb
          have n6_ := Aside0.mk (Kd.N_elder' (by (with_reducible repeat (first | apply Kd.N_alloc | apply Kd.N_drewN | apply Kd.N_drew)); exact HO298.out) (Kd.R_base ho75) hb)
          have n7_ := Aside0.mk (Kd.N_elder' (by (with_reducible repeat (first | apply Kd.N_alloc | apply Kd.N_drewN | apply Kd.N_drew)); exact HO301.out) (Kd.R_base ho75) hb)
          have n8_ := Aside0.mk (Kd.N_elder' (by (with_reducible repeat (first | apply Kd.N_alloc | apply Kd.N_drewN | apply Kd.N_drew)); exact HO306.out) (Kd.R_base ho75) hb)
          have n9_ := cR HO311 hb
          have n10_ := Aside0.mk (Kd.R_lower ho75 (below_size (by repeat (first | (with_reducible first | exact HB.out | apply below_alloc | apply pw_below_drewN | apply below_drew1 | refine below_set ?_ GE269.out | refine below_set ?_ GE274.out | refine below_set ?_ GE312.out) | exact HB.out))))
          have n11_ := cB BK269 hb
          have n12_ := cB BK274 hb
          have n13_ := cB BK312 hb
          have n14_ := Aside0.mk (below_step (by repeat (first | (with_reducible first | exact HB.out | apply below_alloc | apply pw_below_drewN | apply below_drew1 | refine below_set ?_ GE269.out | refine below_set ?_ GE274.out | refine below_set ?_ GE312.out) | exact HB.out)) hb)
          clear HO272
          clear HO277
          clear HO282
          clear HO287
          clear HO290
          clear HO295
          clear HO298
          clear HO301
          clear HO306
          clear HO311
          clear BK269
          clear BK274
          clear BK312
          clear HB
          have HO272 := n0_
          have HO277 := n1_
          have HO282 := n2_
          have HO287 := n3_
          have HO290 := n4_
          have HO295 := n5_
          have HO298 := n6_
          have HO301 := n7_
          have HO306 := n8_
          have HO311 := n9_
          have HO315 := n10_
          have BK269 := n11_
          have BK274 := n12_
          have BK312 := n13_
          have HB := n14_
          clear n0_ n1_ n2_ n3_ n4_ n5_ n6_ n7_ n8_ n9_ n10_ n11_ n12_ n13_ n14_
          clear hb ho75
          obtain ⟨Ao76, co76, eo76⟩ := Kd.R_slice HO315.out
          (first | subst eo76 | (injection eo76 with f1_ f2_ f3_; have f4_ := f1_.symm; have f5_ := f3_.symm; clear f1_ f2_ f3_; subst f4_; subst f5_))
          refine hK.out _ _ ⟨(blk_cell BK312.out 0).trans rfl, (blk_cell BK312.out 1).trans rfl, (blk_cell BK312.out 2).trans rfl⟩ (fun hHeld => ?_)
          clear hK K
          refine norm_ (a' := ?_) ?_ ?_
          rotate_left
          ·
           show Act.put _ (some 87) _ = _
           simp only [Act.put, List.setIfInBounds_toArray, List.set_cons_zero, List.set_cons_succ, i64_w, i32_w]
           rfl
          refine one_ (i := 31) (N := some 88) #[true, true, true, true, true, true, true, true, true, true, true, true, true, true, true, true, true, true, true, true, true, true, true, true, true, true, true, true, true, true, true, true, false, false, false, false, false, false, false, false, false, false, false, false, false, false, false, false] rfl rfl (one_of HT_.out (by kernel_rfl)) (by decide) (fun K hK => ?_)
          refine goes_ Try.func21 (by kernel_rfl) rfl #[.slice Ao76 y313.length co76] (by rfl) rfl rfl (by (try simp only [List.map_toArray, List.map_cons, List.map_nil]); first | done | rfl | (simp only [List.length_drop, List.length_take]; rfl)) ?_
          with_reducible refine (ebbtideref06_Of.calls k _ _ y313 t316 t317 t318 t319 t320 _ ?side1 ?side2 A14.out).mono ?_
          (case side1 => repeat (first | exact (Kd.R_reads' HO315.out).2.2 | (with_reducible refine Kd.C_alloc ?_ _) | (with_reducible refine Kd.C_drewN ?_ _) | (with_reducible refine Kd.C_drew ?_)))
          (case side2 => exact (Kd.R_reads' HO315.out).2.1)
          rintro e w77 ⟨rfl, hb⟩
          refine ⟨_, rfl, ?_⟩
          have n0_ := Aside0.mk (Kd.N_below (by (with_reducible repeat (first | apply Kd.N_alloc | apply Kd.N_drewN | apply Kd.N_drew)); exact HO272.out) hb)
          have n1_ := Aside0.mk (Kd.N_below (by (with_reducible repeat (first | apply Kd.N_alloc | apply Kd.N_drewN | apply Kd.N_drew)); exact HO277.out) hb)
          have n2_ := Aside0.mk (Kd.N_below (by (with_reducible repeat (first | apply Kd.N_alloc | apply Kd.N_drewN | apply Kd.N_drew)); exact HO282.out) hb)
          have n3_ := cR HO287 hb
          have n4_ := Aside0.mk (Kd.N_below (by (with_reducible repeat (first | apply Kd.N_alloc | apply Kd.N_drewN | apply Kd.N_drew)); exact HO290.out) hb)
          have n5_ := cR HO295 hb
          have n6_ := Aside0.mk (Kd.N_below (by (with_reducible repeat (first | apply Kd.N_alloc | apply Kd.N_drewN | apply Kd.N_drew)); exact HO298.out) hb)
          have n7_ := Aside0.mk (Kd.N_below (by (with_reducible repeat (first | apply Kd.N_alloc | apply Kd.N_drewN | apply Kd.N_drew)); exact HO301.out) hb)
          have n8_ := Aside0.mk (Kd.N_below (by (with_reducible repeat (first | apply Kd.N_alloc | apply Kd.N_drewN | apply Kd.N_drew)); exact HO306.out) hb)
          have n9_ := cR HO311 hb
          have n10_ := cR HO315 hb
          have n11_ := cB BK269 hb
          have n12_ := cB BK274 hb
          have n13_ := cB BK312 hb
          have n14_ := Aside0.mk (below_step (by repeat (first | (with_reducible first | exact HB.out | apply below_alloc | apply pw_below_drewN | apply below_drew1 | refine below_set ?_ GE269.out | refine below_set ?_ GE274.out | refine below_set ?_ GE312.out) | exact HB.out)) hb)
          clear HO272
          clear HO277
          clear HO282
          clear HO287
          clear HO290
          clear HO295
          clear HO298
          clear HO301
          clear HO306
          clear HO311
          clear HO315
          clear BK269
          clear BK274
          clear BK312
          clear HB
          have HO272 := n0_
          have HO277 := n1_
          have HO282 := n2_
          have HO287 := n3_
          have HO290 := n4_
          have HO295 := n5_
          have HO298 := n6_
          have HO301 := n7_
          have HO306 := n8_
          have HO311 := n9_
          have HO315 := n10_
          have BK269 := n11_
          have BK274 := n12_
          have BK312 := n13_
          have HB := n14_
          clear n0_ n1_ n2_ n3_ n4_ n5_ n6_ n7_ n8_ n9_ n10_ n11_ n12_ n13_ n14_
          (try clear hb)
          (try clear hb2)
          (try clear hk)
          (try clear hi)
          refine hK.out _ _ ⟨(blk_cell BK312.out 0).trans rfl, (blk_cell BK312.out 1).trans rfl, (blk_cell BK312.out 2).trans rfl⟩ (fun hHeld => ?_)
          clear hK K
          refine norm_ (a' := ?_) ?_ ?_
          rotate_left
          ·
           show Act.put _ (some 88) _ = _
           simp only [Act.put, List.setIfInBounds_toArray, List.set_cons_zero, List.set_cons_succ, i64_w, i32_w]
           rfl
          refine pu 32 (some 89) rfl rfl (ao HT_) (fun _ _ _ h => h) ya aa ?_
          refine one_ (i := 33) (N := some 90) #[true, true, true, true, true, true, true, true, true, true, true, true, true, true, true, true, true, true, true, true, true, true, true, true, true, true, true, true, true, true, true, true, true, true, false, false, false, false, false, false, false, false, false, false, false, false, false, false] rfl rfl (one_of HT_.out (by kernel_rfl)) (by decide) (fun K hK => ?_)
          refine Kd.R_lit_step k56 _ 56 ?hg (N := 90) ?hd (xs := ([(⟨2, (⟨#[99, 112, 117]⟩ : ByteArray), (⟨t316, (⟨t317, t318⟩ : S52), t319, t320⟩ : S54)⟩ : S56)] : List (S56))) (inner := [.int .i64 2, .string (⟨#[99, 112, 117]⟩ : ByteArray), .int .i64 t316, .int .i64 t317, .bool t318, .int .i64 t319, .int .i64 t320]) (ok := fun _ => True) (okp := fun _ => True) ?hr ?hp (fun _ hk => hk) trivial (Below.refl _ _) (Nat.le_refl _) (by simp) ?_; (case hd => rfl); (case hg => rfl); (case hr => first | (go_simp; done) | (go_simp; rfl)); (case hp => exact (Reps.c7 (show Kd.M k56 _ _ _ (⟨2, (⟨#[99, 112, 117]⟩ : ByteArray), (⟨t316, (⟨t317, t318⟩ : S52), t319, t320⟩ : S54)⟩ : S56) [.int .i64 2, .string (⟨#[99, 112, 117]⟩ : ByteArray), .int .i64 t316, .int .i64 t317, .bool t318, .int .i64 t319, .int .i64 t320] from (k56_mkM _ _ _ (⟨2, (⟨#[99, 112, 117]⟩ : ByteArray), (⟨t316, (⟨t317, t318⟩ : S52), t319, t320⟩ : S54)⟩ : S56) )) (Reps.none _ _)))
          intro v322 w78 ho79 hb hg_ hnew_
          clear hg_ hnew_
          (first | rw [← Ny321.out] at ho79 | (simp only [Int.reduceToNat] at ho79; rw [← Ny321.out] at ho79))
          have n0_ := Aside0.mk (Kd.N_elder' (by (with_reducible repeat (first | apply Kd.N_alloc | apply Kd.N_drewN | apply Kd.N_drew)); exact HO272.out) (Kd.R_base ho79) hb)
          have n1_ := Aside0.mk (Kd.N_elder' (by (with_reducible repeat (first | apply Kd.N_alloc | apply Kd.N_drewN | apply Kd.N_drew)); exact HO277.out) (Kd.R_base ho79) hb)
          have n2_ := Aside0.mk (Kd.N_elder' (by (with_reducible repeat (first | apply Kd.N_alloc | apply Kd.N_drewN | apply Kd.N_drew)); exact HO282.out) (Kd.R_base ho79) hb)
          have n3_ := cR HO287 hb
          have n4_ := Aside0.mk (Kd.N_elder' (by (with_reducible repeat (first | apply Kd.N_alloc | apply Kd.N_drewN | apply Kd.N_drew)); exact HO290.out) (Kd.R_base ho79) hb)
          have n5_ := cR HO295 hb
          have n6_ := Aside0.mk (Kd.N_elder' (by (with_reducible repeat (first | apply Kd.N_alloc | apply Kd.N_drewN | apply Kd.N_drew)); exact HO298.out) (Kd.R_base ho79) hb)
          have n7_ := Aside0.mk (Kd.N_elder' (by (with_reducible repeat (first | apply Kd.N_alloc | apply Kd.N_drewN | apply Kd.N_drew)); exact HO301.out) (Kd.R_base ho79) hb)
          have n8_ := Aside0.mk (Kd.N_elder' (by (with_reducible repeat (first | apply Kd.N_alloc | apply Kd.N_drewN | apply Kd.N_drew)); exact HO306.out) (Kd.R_base ho79) hb)
          have n9_ := Aside0.mk (Kd.R_elder' (uR HO311.out) (Kd.R_base ho79) hb)
          have n10_ := cR HO315 hb
          have n11_ := Aside0.mk (Kd.R_lower (Kd.R_new' ho79 (Kd.R_lt (uR HO311.out))) (below_size (by repeat (first | (with_reducible first | exact HB.out | apply below_alloc | apply pw_below_drewN | apply below_drew1 | refine below_set ?_ GE269.out | refine below_set ?_ GE274.out | refine below_set ?_ GE312.out) | exact HB.out))))
          have n12_ := cB BK269 hb
          have n13_ := cB BK274 hb
          have n14_ := cB BK312 hb
          have n15_ := Aside0.mk (below_step (by repeat (first | (with_reducible first | exact HB.out | apply below_alloc | apply pw_below_drewN | apply below_drew1 | refine below_set ?_ GE269.out | refine below_set ?_ GE274.out | refine below_set ?_ GE312.out) | exact HB.out)) hb)
          clear HO272
          clear HO277
          clear HO282
          clear HO287
          clear HO290
          clear HO295
          clear HO298
          clear HO301
          clear HO306
          clear HO311
          clear HO315
          clear BK269
          clear BK274
          clear BK312
          clear HB
          have HO272 := n0_
          have HO277 := n1_
          have HO282 := n2_
          have HO287 := n3_
          have HO290 := n4_
          have HO295 := n5_
          have HO298 := n6_
          have HO301 := n7_
          have HO306 := n8_
          have HO311 := n9_
          have HO315 := n10_
          have HO323 := n11_
          have BK269 := n12_
          have BK274 := n13_
          have BK312 := n14_
          have HB := n15_
          clear n0_ n1_ n2_ n3_ n4_ n5_ n6_ n7_ n8_ n9_ n10_ n11_ n12_ n13_ n14_ n15_
          clear hb ho79
          obtain ⟨Ao80, co80, eo80⟩ := Kd.R_slice HO323.out
          (first | subst eo80 | (injection eo80 with f1_ f2_ f3_; have f4_ := f1_.symm; have f5_ := f3_.symm; clear f1_ f2_ f3_; subst f4_; subst f5_))
          refine hK.out _ _ ⟨(blk_cell BK312.out 0).trans rfl, (blk_cell BK312.out 1).trans rfl, (blk_cell BK312.out 2).trans rfl⟩ (fun hHeld => ?_)
          clear hK K
          refine norm_ (a' := ?_) ?_ ?_
          rotate_left
          ·
           show Act.put _ (some 90) _ = _
           simp only [Act.put, List.setIfInBounds_toArray, List.set_cons_zero, List.set_cons_succ, i64_w, i32_w]
           rfl
          refine one_ (i := 34) (N := some 91) #[true, true, true, true, true, true, true, true, true, true, true, true, true, true, true, true, true, true, true, true, true, true, true, true, true, true, true, true, true, true, true, true, true, true, true, false, false, false, false, false, false, false, false, false, false, false, false, false] rfl rfl (one_of HT_.out (by kernel_rfl)) (by decide) (fun K hK => ?_)
          refine goes_ Try.func20 (by kernel_rfl) rfl #[.slice Ao71 t309.length co71, .slice Ao80 y321.length co80] (by rfl) rfl rfl (by (try simp only [List.map_toArray, List.map_cons, List.map_nil]); first | done | rfl | (simp only [List.length_drop, List.length_take]; rfl)) ?_
          with_reducible refine (ebbtideref08_Items.calls k _ _ t309 _ _ y321 true _ ?side1 ?side2 ?side3 ?side4 A15.out).mono ?_
          (case side1 => repeat (first | exact (Kd.R_reads' HO311.out).2.2 | (with_reducible refine Kd.C_alloc ?_ _) | (with_reducible refine Kd.C_drewN ?_ _) | (with_reducible refine Kd.C_drew ?_)))
          (case side2 => exact (Kd.R_reads' HO311.out).2.1)
          (case side3 => repeat (first | exact (Kd.R_reads' HO323.out).2.2 | (with_reducible refine Kd.C_alloc ?_ _) | (with_reducible refine Kd.C_drewN ?_ _) | (with_reducible refine Kd.C_drew ?_)))
          (case side4 => exact (Kd.R_reads' HO323.out).2.1)
          rintro e w' ⟨rfl, ⟨nd, rfl⟩⟩
          refine ⟨_, rfl, ?_⟩
          refine hK.out _ _ ⟨(blk_cell BK312.out 0).trans rfl, (blk_cell BK312.out 1).trans rfl, (blk_cell BK312.out 2).trans rfl⟩ (fun hHeld => ?_)
          clear hK K
          refine norm_ (a' := ?_) ?_ ?_
          rotate_left
          ·
           show Act.put _ (some 91) _ = _
           simp only [Act.put, List.setIfInBounds_toArray, List.set_cons_zero, List.set_cons_succ, i64_w, i32_w]
           rfl
          refine pu 35 (some 92) rfl rfl (ao HT_) (fun _ _ _ h => h) ya aa ?_
          refine pu 36 (some 93) rfl rfl (ao HT_) (fun _ _ _ h => h) ya aa ?_
          refine tk 37 (some 94) rfl rfl (tw HT_ HW_) (fun _ _ _ h => h) (Or.inl ⟨by rfl, by rintro w' ⟨s0, s1, s2⟩; go_simp; with_reducible rfl⟩) hHeld aa ?_
          refine tk 38 (some 95) rfl rfl (tw HT_ HW_) (fun _ _ _ h => h) (Or.inl ⟨by rfl, by rintro w' ⟨s0, s1, s2⟩; go_simp; with_reducible rfl⟩) hHeld aa ?_
          refine one_ (i := 39) (N := some 96) #[true, true, true, true, true, true, true, true, true, true, true, true, true, true, true, true, true, true, true, true, true, true, true, true, true, true, true, true, true, true, true, true, true, true, true, true, true, true, true, true, false, false, false, false, false, false, false, false] rfl rfl (one_of HT_.out (by kernel_rfl)) (by decide) (fun K hK => ?_)
          refine goes_ Try.func15 (by kernel_rfl) rfl #[.agg #[.int .i64 t307, .int .i64 t308, .slice Ao71 t309.length co71], .agg #[.int .i64 t307, .int .i64 t308, .slice Ao71 t309.length co71]] (by rfl) rfl rfl (by (try simp only [List.map_toArray, List.map_cons, List.map_nil]); first | done | rfl | (simp only [List.length_drop, List.length_take]; rfl)) ?_
          with_reducible refine (emit_Same.calls k t307 t308 _ _ t309 t307 t308 _ _ t309 true _ ?side1 ?side2 ?side3 ?side4 A17.out).mono ?_
          (case side1 => repeat (first | exact (Kd.R_reads' HO311.out).2.2 | (with_reducible refine Kd.C_alloc ?_ _) | (with_reducible refine Kd.C_drewN ?_ _) | (with_reducible refine Kd.C_drew ?_)))
          (case side2 => exact (Kd.R_reads' HO311.out).2.1)
          (case side3 => repeat (first | exact (Kd.R_reads' HO311.out).2.2 | (with_reducible refine Kd.C_alloc ?_ _) | (with_reducible refine Kd.C_drewN ?_ _) | (with_reducible refine Kd.C_drew ?_)))
          (case side4 => exact (Kd.R_reads' HO311.out).2.1)
          rintro e w81 ⟨rfl, hb⟩
          refine ⟨_, rfl, ?_⟩
          have n0_ := Aside0.mk (Kd.N_below (by (with_reducible repeat (first | apply Kd.N_alloc | apply Kd.N_drewN | apply Kd.N_drew)); exact HO272.out) hb)
          have n1_ := Aside0.mk (Kd.N_below (by (with_reducible repeat (first | apply Kd.N_alloc | apply Kd.N_drewN | apply Kd.N_drew)); exact HO277.out) hb)
          have n2_ := Aside0.mk (Kd.N_below (by (with_reducible repeat (first | apply Kd.N_alloc | apply Kd.N_drewN | apply Kd.N_drew)); exact HO282.out) hb)
          have n3_ := cR HO287 hb
          have n4_ := Aside0.mk (Kd.N_below (by (with_reducible repeat (first | apply Kd.N_alloc | apply Kd.N_drewN | apply Kd.N_drew)); exact HO290.out) hb)
          have n5_ := cR HO295 hb
          have n6_ := Aside0.mk (Kd.N_below (by (with_reducible repeat (first | apply Kd.N_alloc | apply Kd.N_drewN | apply Kd.N_drew)); exact HO298.out) hb)
          have n7_ := Aside0.mk (Kd.N_below (by (with_reducible repeat (first | apply Kd.N_alloc | apply Kd.N_drewN | apply Kd.N_drew)); exact HO301.out) hb)
          have n8_ := Aside0.mk (Kd.N_below (by (with_reducible repeat (first | apply Kd.N_alloc | apply Kd.N_drewN | apply Kd.N_drew)); exact HO306.out) hb)
          have n9_ := cR HO311 hb
          have n10_ := cR HO315 hb
          have n11_ := cR HO323 hb
          have n12_ := cB BK269 hb
          have n13_ := cB BK274 hb
          have n14_ := cB BK312 hb
          have n15_ := Aside0.mk (below_step (by repeat (first | (with_reducible first | exact HB.out | apply below_alloc | apply pw_below_drewN | apply below_drew1 | refine below_set ?_ GE269.out | refine below_set ?_ GE274.out | refine below_set ?_ GE312.out) | exact HB.out)) hb)
          clear HO272
          clear HO277
          clear HO282
          clear HO287
          clear HO290
          clear HO295
          clear HO298
          clear HO301
          clear HO306
          clear HO311
          clear HO315
          clear HO323
          clear BK269
          clear BK274
          clear BK312
          clear HB
          have HO272 := n0_
          have HO277 := n1_
          have HO282 := n2_
          have HO287 := n3_
          have HO290 := n4_
          have HO295 := n5_
          have HO298 := n6_
          have HO301 := n7_
          have HO306 := n8_
          have HO311 := n9_
          have HO315 := n10_
          have HO323 := n11_
          have BK269 := n12_
          have BK274 := n13_
          have BK312 := n14_
          have HB := n15_
          clear n0_ n1_ n2_ n3_ n4_ n5_ n6_ n7_ n8_ n9_ n10_ n11_ n12_ n13_ n14_ n15_
          (try clear hb)
          (try clear hb2)
          (try clear hk)
          (try clear hi)
          refine hK.out _ _ ⟨(blk_cell BK312.out 0).trans rfl, (blk_cell BK312.out 1).trans rfl, (blk_cell BK312.out 2).trans rfl⟩ (fun hHeld => ?_)
          clear hK K
          refine norm_ (a' := ?_) ?_ ?_
          rotate_left
          ·
           show Act.put _ (some 96) _ = _
           simp only [Act.put, List.setIfInBounds_toArray, List.set_cons_zero, List.set_cons_succ, i64_w, i32_w]
           rfl
          refine pu 40 (some 97) rfl rfl (ao HT_) (fun _ _ _ h => h) ya aa ?_
          refine pu 41 (some 98) rfl rfl (ao HT_) (fun _ _ _ h => h) ya aa ?_
          refine pu 43 (some 100) rfl rfl (ao HT_) (fun _ _ _ h => h) ya aa ?_
          refine tk 42 (some 99) rfl rfl (tw HT_ HW_) (fun _ _ _ h => h) (Or.inl ⟨by rfl, by rintro w' ⟨s0, s1, s2⟩; go_simp; with_reducible rfl⟩) hHeld aa ?_
          refine one_ (i := 44) (N := some 101) #[true, true, true, true, true, true, true, true, true, true, true, true, true, true, true, true, true, true, true, true, true, true, true, true, true, true, true, true, true, true, true, true, true, true, true, true, true, true, true, true, true, true, true, true, true, false, false, false] rfl rfl (one_of HT_.out (by kernel_rfl)) (by decide) (fun K hK => ?_)
          refine goes_ Try.func15 (by kernel_rfl) rfl #[.agg #[.int .i64 t307, .int .i64 t308, .slice Ao71 t309.length co71], .agg #[.int .i64 0, .int .i64 0, .slice none 0 0]] (by rfl) rfl rfl (by (try simp only [List.map_toArray, List.map_cons, List.map_nil]); first | done | rfl | (simp only [List.length_drop, List.length_take]; rfl)) ?_
          refine (emit_Same.calls k t307 t308 _ _ t309 0 0 _ _ ([] : List (S56)) t326 _ ?side1 ?side2 ?side3 ?side4 A19.out).mono ?_
          (case side1 => repeat (first | exact (Kd.R_reads' HO311.out).2.2 | (with_reducible refine Kd.C_alloc ?_ _) | (with_reducible refine Kd.C_drewN ?_ _) | (with_reducible refine Kd.C_drew ?_)))
          (case side2 => exact (Kd.R_reads' HO311.out).2.1)
          (case side3 => exact Kd.C_nil _ _)
          (case side4 => exact Nat.le_refl _)
          rintro e w82 ⟨rfl, hb⟩
          refine ⟨_, rfl, ?_⟩
          have n0_ := Aside0.mk (Kd.N_below (by (with_reducible repeat (first | apply Kd.N_alloc | apply Kd.N_drewN | apply Kd.N_drew)); exact HO272.out) hb)
          have n1_ := Aside0.mk (Kd.N_below (by (with_reducible repeat (first | apply Kd.N_alloc | apply Kd.N_drewN | apply Kd.N_drew)); exact HO277.out) hb)
          have n2_ := Aside0.mk (Kd.N_below (by (with_reducible repeat (first | apply Kd.N_alloc | apply Kd.N_drewN | apply Kd.N_drew)); exact HO282.out) hb)
          have n3_ := cR HO287 hb
          have n4_ := Aside0.mk (Kd.N_below (by (with_reducible repeat (first | apply Kd.N_alloc | apply Kd.N_drewN | apply Kd.N_drew)); exact HO290.out) hb)
          have n5_ := cR HO295 hb
          have n6_ := Aside0.mk (Kd.N_below (by (with_reducible repeat (first | apply Kd.N_alloc | apply Kd.N_drewN | apply Kd.N_drew)); exact HO298.out) hb)
          have n7_ := Aside0.mk (Kd.N_below (by (with_reducible repeat (first | apply Kd.N_alloc | apply Kd.N_drewN | apply Kd.N_drew)); exact HO301.out) hb)
          have n8_ := Aside0.mk (Kd.N_below (by (with_reducible repeat (first | apply Kd.N_alloc | apply Kd.N_drewN | apply Kd.N_drew)); exact HO306.out) hb)
          have n9_ := cR HO311 hb
          have n10_ := cR HO315 hb
          have n11_ := cR HO323 hb
          have n12_ := cB BK269 hb
          have n13_ := cB BK274 hb
          have n14_ := cB BK312 hb
          have n15_ := Aside0.mk (below_step (by repeat (first | (with_reducible first | exact HB.out | apply below_alloc | apply pw_below_drewN | apply below_drew1 | refine below_set ?_ GE269.out | refine below_set ?_ GE274.out | refine below_set ?_ GE312.out) | exact HB.out)) hb)
          clear HO272
          clear HO277
          clear HO282
          clear HO287
          clear HO290
          clear HO295
          clear HO298
          clear HO301
          clear HO306
          clear HO311
          clear HO315
          clear HO323
          clear BK269
          clear BK274
          clear BK312
          clear HB
          have HO272 := n0_
          have HO277 := n1_
          have HO282 := n2_
          have HO287 := n3_
          have HO290 := n4_
          have HO295 := n5_
          have HO298 := n6_
          have HO301 := n7_
          have HO306 := n8_
          have HO311 := n9_
          have HO315 := n10_
          have HO323 := n11_
          have BK269 := n12_
          have BK274 := n13_
          have BK312 := n14_
          have HB := n15_
          clear n0_ n1_ n2_ n3_ n4_ n5_ n6_ n7_ n8_ n9_ n10_ n11_ n12_ n13_ n14_ n15_
          (try clear hb)
          (try clear hb2)
          (try clear hk)
          (try clear hi)
          refine hK.out _ _ ⟨(blk_cell BK312.out 0).trans rfl, (blk_cell BK312.out 1).trans rfl, (blk_cell BK312.out 2).trans rfl⟩ (fun hHeld => ?_)
          clear hK K
          refine norm_ (a' := ?_) ?_ ?_
          rotate_left
          ·
           show Act.put _ (some 101) _ = _
           simp only [Act.put, List.setIfInBounds_toArray, List.set_cons_zero, List.set_cons_succ, i64_w, i32_w]
           rfl
          refine pu 45 (some 102) rfl rfl (ao HT_) (fun _ _ _ h => h) ya aa ?_
          refine pu 46 (some 103) rfl rfl (ao HT_) (fun _ _ _ h => h) ya aa ?_
          refine pu 47 (some 0) rfl rfl (ao HT_) (fun _ _ _ h => h) ya aa ?_
          refine done_ (done_of HT_.out (by kernel_rfl)) ?_
          try go_wp2
          go_ret
          exact ⟨by first | rfl | (simp [errW_none, errW_some] <;> rfl) | (simp [*, errW_none, errW_some] <;> rfl), by repeat (first | (with_reducible first | exact HB.out | apply below_alloc | apply pw_below_drewN | apply below_drew1 | refine below_set ?_ GE269.out | refine below_set ?_ GE274.out | refine below_set ?_ GE312.out) | exact HB.out)⟩
         ·
          replace c18 := Bool.eq_false_iff.mpr c18
          subst c18
          rw [if_neg (show ¬ (false = true) by decide)] at H
          exact absurd H (by simp)
        ·
         replace c16 := Bool.eq_false_iff.mpr c16
         subst c16
         rw [if_neg (show ¬ (false = true) by decide)] at H
         exact absurd H (by simp)
       ·
        rw [if_neg c13] at H
        have c13b0 : (t308 == 9) = false := beq_eq_false_iff_ne.mpr c13
        have c13b1 : (t308 != 9) = true := bne_iff_ne.mpr c13
        exact absurd H (by simp)
      ·
       rw [if_neg c12] at H
       have c12b0 : (t307 == 2) = false := beq_eq_false_iff_ne.mpr c12
       have c12b1 : (t307 != 2) = true := bne_iff_ne.mpr c12
       exact absurd H (by simp)
  ·
   rw [if_neg c8] at H
   have c8b0 : (t278 == 2) = false := beq_eq_false_iff_ne.mpr c8
   have c8b1 : (t278 != 2) = true := bne_iff_ne.mpr c8
   exact absurd H (by simp)
 ·
  replace c7 := Bool.eq_false_iff.mpr c7
  subst c7
  rw [if_neg (show ¬ (false = true) by decide)] at H
  exact absurd H (by simp)

end Go.Proofs.Ytklhjponikgkkaa.X
