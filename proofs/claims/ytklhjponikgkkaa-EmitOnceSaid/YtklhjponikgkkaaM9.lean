/- Printed by a program of this session's own: what functions of the program compute, and that the machine computes it. No condition of its own. -/
import Derived.Test.YtklhjponikgkkaaM3
import Derived.Test.YtklhjponikgkkaaM4
import Derived.Test.YtklhjponikgkkaaM5
import Derived.Test.YtklhjponikgkkaaM7
import Derived.Test.YtklhjponikgkkaaM8
namespace Go.Proofs.Ytklhjponikgkkaa.X
open Go.RowKit Go.Proofs.YtklhjponikgkkaaW.PrintWords Go.Proofs.YtklhjponikgkkaaW.PrintLast Go.Proofs.YtklhjponikgkkaaW.PrintMore
attribute [local go_sem] max2_int min2_int max_two min_two max_three min_three max_four min_four
set_option linter.unusedVariables false
set_option linter.unusedSimpArgs false
set_option maxHeartbeats 8000000
set_option maxRecDepth 100000
def ebbtidelaw17_alive.f (k : Nat)  : Option (Bool) := (ebbtideref11_Apply.f k ([] : List (S70)) 1 2 (⟨#[99, 112, 117]⟩ : ByteArray) 3).bind fun bt252 => ((emit_Next.f k 0 0 10 5 0 35 ([] : List (S46)) ([] : List (List (S61))) (([(⟨bt252.1⟩ : S50)] : List (S50)))).bind fun bt260 => ((emit_Next.f k 0 0 10 5 0 34 ([] : List (S46)) ([] : List (List (S61))) (([(⟨bt252.1⟩ : S50)] : List (S50)))).bind fun bt265 => ((emit_Next.f k 0 0 10 5 0 35 (([(⟨2, 0⟩ : S46)] : List (S46))) ([] : List (List (S61))) (([(⟨bt252.1⟩ : S50)] : List (S50)))).bind fun bt273 => ((emit_Next.f k 0 0 10 5 0 35 ([] : List (S46)) (([(([(⟨0, 2, (⟨#[]⟩ : ByteArray), 0⟩ : S61)] : List (S61)))] : List (List (S61)))) (([(⟨bt252.1⟩ : S50)] : List (S50)))).bind fun bt284 => ((emit_Take.f k 2 9 (([(⟨([] : List (S70))⟩ : S50), (⟨bt252.1⟩ : S50)] : List (S50)))).bind fun bt289 => (if bt260.2 = true then (if bt260.1 = 2 then (if bt265.2 = true then (none) else (if bt273.2 = true then (none) else (if bt284.2 = true then (none) else (if bt289.1 = 2 then (if bt289.2.1 = 9 then ((ebbtideref06_Of.f k (([3] : List Int))).bind fun bt298 => ((ebbtideref08_Items.f k bt289.2.2 (([(⟨2, (⟨#[99, 112, 117]⟩ : ByteArray), (⟨bt298.1, (⟨bt298.2.1, bt298.2.2.1⟩ : S52), bt298.2.2.2.1, bt298.2.2.2.2⟩ : S54)⟩ : S56)] : List (S56)))).bind fun t306 => (if t306 = true then ((emit_Same.f k bt289.1 bt289.2.1 bt289.2.2 bt289.1 bt289.2.1 bt289.2.2).bind fun t307 => (if t307 = true then ((emit_Same.f k bt289.1 bt289.2.1 bt289.2.2 0 0 ([] : List (S56))).bind fun t308 => (some (!t308))) else (none))) else (none)))) else (none)) else (none))))) else (none)) else (none)))))))
theorem ebbtidelaw17_alive.mono : ∀ k, LeO (ebbtidelaw17_alive.f k ) (ebbtidelaw17_alive.f (k + 1) ) := by
 intro k
 unfold ebbtidelaw17_alive.f
 exact lo
instance ebbtidelaw17_alive.mI {k} : LeC (ebbtidelaw17_alive.f k) (ebbtidelaw17_alive.f (k + 1)) := ⟨ebbtidelaw17_alive.mono _⟩
def ebbtidelaw17_alive.T8 : Bool × List (List Nat × List Nat) := (true, [([], []), ([0], [0]), ([1], [1]), ([2, 1], [1, 2]), ([1, 3], [1, 3]), ([4, 1], [4]), ([5], [5]), ([6, 5], [5, 6]), ([5, 7], [5, 7]), ([8, 5], [8]), ([9], [9]), ([10, 9], [9, 10]), ([9, 11], [9, 11]), ([12, 9], [12]), ([13], [13]), ([14, 13], [13, 14]), ([13, 15], [13, 15]), ([16, 13], [16]), ([17], [17]), ([18, 17], [17, 18]), ([19, 17], [17, 19]), ([17, 20], [17, 20]), ([21, 17], [21]), ([22], [22]), ([23, 22], [22, 23]), ([24, 22], [22, 24]), ([22, 25], [22, 25]), ([26, 22], [26]), ([27], [27]), ([28, 27], [27, 28]), ([27], [27]), ([30, 27, 27], [27, 30]), ([31, 27], [27, 31]), ([32, 27], [27, 32]), ([29, 33, 31, 27], [27, 29, 33]), ([27, 34], [27, 34]), ([35, 34], [35]), ([36], [36]), ([36], [36]), ([37, 38, 36, 36], [36, 37, 38]), ([36, 39], [36, 39]), ([40, 39], [40]), ([41], [41]), ([41], [41]), ([42, 43, 41, 41], [41, 42, 43]), ([44, 41], [41, 44]), ([41, 45], [41, 45]), ([46, 44, 0, 1, 2, 3, 4, 5, 6, 7, 8, 9, 10, 11, 12, 13, 14, 15, 16, 17, 18, 19, 20, 21, 22, 23, 24, 25, 26, 27, 28, 29, 30, 31, 32, 33, 34, 35, 36, 37, 38, 39, 40, 41, 42, 43, 44, 45, 46], [46])])
def ebbtidelaw17_alive.B8 : List Nat := [0, 1, 3, 7, 15, 31, 63, 127, 255, 511, 1023, 2047, 4095, 8191, 16383, 32767, 65535, 131071, 262143, 524287, 1048575, 2097151, 4194303, 8388607, 16777215, 33554431, 67108863, 134217727, 268435455, 536870911, 268435455, 1342177279, 3489660927, 7784628223, 17179869183, 34359738367, 68719476735, 137438953471, 137438953471, 549755813887, 1099511627775, 2199023255551, 4398046511103, 4398046511103, 17592186044415, 35184372088831, 70368744177663, 140737488355327]
theorem ebbtidelaw17_alive.tab8 : rtab .any (opsOf Try.f7 8) = ebbtidelaw17_alive.T8 := by kernel_rfl
theorem ebbtidelaw17_alive.bits8 : waitsOk ebbtidelaw17_alive.T8.2 ebbtidelaw17_alive.B8 = true := by kernel_rfl
theorem ebbtidelaw17_alive.calls (k : Nat)  (r : Bool) (w : World) (h : ebbtidelaw17_alive.f k  = some r) :
 Calls Try.prog 7 #[] w fun e w' => e = .returned (.bool r) ∧ Below w.heap.size w w' := by
 have hu23 := Try.underlying23
 have hu50 := Try.underlying50
 have hu61 := Try.underlying61
 have hu46 := Try.underlying46
 have hu38 := Try.underlying38
 have hu56 := Try.underlying56
 have HB := Aside0.mk (Below.refl w.heap.size w)
 have H : ((ebbtideref11_Apply.f k ([] : List (S70)) 1 2 (⟨#[99, 112, 117]⟩ : ByteArray) 3).bind fun bt252 => ((emit_Next.f k 0 0 10 5 0 35 ([] : List (S46)) ([] : List (List (S61))) (([(⟨bt252.1⟩ : S50)] : List (S50)))).bind fun bt260 => ((emit_Next.f k 0 0 10 5 0 34 ([] : List (S46)) ([] : List (List (S61))) (([(⟨bt252.1⟩ : S50)] : List (S50)))).bind fun bt265 => ((emit_Next.f k 0 0 10 5 0 35 (([(⟨2, 0⟩ : S46)] : List (S46))) ([] : List (List (S61))) (([(⟨bt252.1⟩ : S50)] : List (S50)))).bind fun bt273 => ((emit_Next.f k 0 0 10 5 0 35 ([] : List (S46)) (([(([(⟨0, 2, (⟨#[]⟩ : ByteArray), 0⟩ : S61)] : List (S61)))] : List (List (S61)))) (([(⟨bt252.1⟩ : S50)] : List (S50)))).bind fun bt284 => ((emit_Take.f k 2 9 (([(⟨([] : List (S70))⟩ : S50), (⟨bt252.1⟩ : S50)] : List (S50)))).bind fun bt289 => (if bt260.2 = true then (if bt260.1 = 2 then (if bt265.2 = true then (none) else (if bt273.2 = true then (none) else (if bt284.2 = true then (none) else (if bt289.1 = 2 then (if bt289.2.1 = 9 then ((ebbtideref06_Of.f k (([3] : List Int))).bind fun bt298 => ((ebbtideref08_Items.f k bt289.2.2 (([(⟨2, (⟨#[99, 112, 117]⟩ : ByteArray), (⟨bt298.1, (⟨bt298.2.1, bt298.2.2.1⟩ : S52), bt298.2.2.2.1, bt298.2.2.2.2⟩ : S54)⟩ : S56)] : List (S56)))).bind fun t306 => (if t306 = true then ((emit_Same.f k bt289.1 bt289.2.1 bt289.2.2 bt289.1 bt289.2.1 bt289.2.2).bind fun t307 => (if t307 = true then ((emit_Same.f k bt289.1 bt289.2.1 bt289.2.2 0 0 ([] : List (S56))).bind fun t308 => (some (!t308))) else (none))) else (none)))) else (none)) else (none))))) else (none)) else (none)))))))) = some r := h
 clear h
 obtain ⟨⟨t252, t255⟩, A1, H⟩ := bs H
 try dsimp only at H
 obtain ⟨y257, hy257⟩ : ∃ y_ : List (S50), y_ = (([(⟨t252⟩ : S50)] : List (S50))) := ⟨_, rfl⟩
 replace H : ((emit_Next.f k 0 0 10 5 0 35 ([] : List (S46)) ([] : List (List (S61))) y257).bind fun bt260 => ((emit_Next.f k 0 0 10 5 0 34 ([] : List (S46)) ([] : List (List (S61))) (([(⟨t252⟩ : S50)] : List (S50)))).bind fun bt265 => ((emit_Next.f k 0 0 10 5 0 35 (([(⟨2, 0⟩ : S46)] : List (S46))) ([] : List (List (S61))) (([(⟨t252⟩ : S50)] : List (S50)))).bind fun bt273 => ((emit_Next.f k 0 0 10 5 0 35 ([] : List (S46)) (([(([(⟨0, 2, (⟨#[]⟩ : ByteArray), 0⟩ : S61)] : List (S61)))] : List (List (S61)))) (([(⟨t252⟩ : S50)] : List (S50)))).bind fun bt284 => ((emit_Take.f k 2 9 (([(⟨([] : List (S70))⟩ : S50), (⟨t252⟩ : S50)] : List (S50)))).bind fun bt289 => (if bt260.2 = true then (if bt260.1 = 2 then (if bt265.2 = true then (none) else (if bt273.2 = true then (none) else (if bt284.2 = true then (none) else (if bt289.1 = 2 then (if bt289.2.1 = 9 then ((ebbtideref06_Of.f k (([3] : List Int))).bind fun bt298 => ((ebbtideref08_Items.f k bt289.2.2 (([(⟨2, (⟨#[99, 112, 117]⟩ : ByteArray), (⟨bt298.1, (⟨bt298.2.1, bt298.2.2.1⟩ : S52), bt298.2.2.2.1, bt298.2.2.2.2⟩ : S54)⟩ : S56)] : List (S56)))).bind fun t306 => (if t306 = true then ((emit_Same.f k bt289.1 bt289.2.1 bt289.2.2 bt289.1 bt289.2.1 bt289.2.2).bind fun t307 => (if t307 = true then ((emit_Same.f k bt289.1 bt289.2.1 bt289.2.2 0 0 ([] : List (S56))).bind fun t308 => (some (!t308))) else (none))) else (none)))) else (none)) else (none))))) else (none)) else (none))))))) = some r := by first | (rw [hy257]; with_reducible exact H) | (have H2_ := (Option.bind_some _ _).symm.trans H; rw [hy257]; with_reducible exact H2_) | (have H2_ := (Option.bind_some _ _).symm.trans H; with_reducible exact H2_) | with_reducible exact H | (rw [hy257]; exact H) | exact H
 have Ny257 := Aside0.mk hy257
 clear hy257
 obtain ⟨⟨t260, t261⟩, A2, H⟩ := bs H
 try dsimp only at H
 obtain ⟨y262, hy262⟩ : ∃ y_ : List (S50), y_ = (([(⟨t252⟩ : S50)] : List (S50))) := ⟨_, rfl⟩
 replace H : ((emit_Next.f k 0 0 10 5 0 34 ([] : List (S46)) ([] : List (List (S61))) y262).bind fun bt265 => ((emit_Next.f k 0 0 10 5 0 35 (([(⟨2, 0⟩ : S46)] : List (S46))) ([] : List (List (S61))) (([(⟨t252⟩ : S50)] : List (S50)))).bind fun bt273 => ((emit_Next.f k 0 0 10 5 0 35 ([] : List (S46)) (([(([(⟨0, 2, (⟨#[]⟩ : ByteArray), 0⟩ : S61)] : List (S61)))] : List (List (S61)))) (([(⟨t252⟩ : S50)] : List (S50)))).bind fun bt284 => ((emit_Take.f k 2 9 (([(⟨([] : List (S70))⟩ : S50), (⟨t252⟩ : S50)] : List (S50)))).bind fun bt289 => (if t261 = true then (if t260 = 2 then (if bt265.2 = true then (none) else (if bt273.2 = true then (none) else (if bt284.2 = true then (none) else (if bt289.1 = 2 then (if bt289.2.1 = 9 then ((ebbtideref06_Of.f k (([3] : List Int))).bind fun bt298 => ((ebbtideref08_Items.f k bt289.2.2 (([(⟨2, (⟨#[99, 112, 117]⟩ : ByteArray), (⟨bt298.1, (⟨bt298.2.1, bt298.2.2.1⟩ : S52), bt298.2.2.2.1, bt298.2.2.2.2⟩ : S54)⟩ : S56)] : List (S56)))).bind fun t306 => (if t306 = true then ((emit_Same.f k bt289.1 bt289.2.1 bt289.2.2 bt289.1 bt289.2.1 bt289.2.2).bind fun t307 => (if t307 = true then ((emit_Same.f k bt289.1 bt289.2.1 bt289.2.2 0 0 ([] : List (S56))).bind fun t308 => (some (!t308))) else (none))) else (none)))) else (none)) else (none))))) else (none)) else (none)))))) = some r := by first | (rw [hy262]; with_reducible exact H) | (have H2_ := (Option.bind_some _ _).symm.trans H; rw [hy262]; with_reducible exact H2_) | (have H2_ := (Option.bind_some _ _).symm.trans H; with_reducible exact H2_) | with_reducible exact H | (rw [hy262]; exact H) | exact H
 have Ny262 := Aside0.mk hy262
 clear hy262
 obtain ⟨⟨t265, t266⟩, A3, H⟩ := bs H
 try dsimp only at H
 obtain ⟨y267, hy267⟩ : ∃ y_ : List (S46), y_ = (([(⟨2, 0⟩ : S46)] : List (S46))) := ⟨_, rfl⟩
 replace H : ((emit_Next.f k 0 0 10 5 0 35 y267 ([] : List (List (S61))) (([(⟨t252⟩ : S50)] : List (S50)))).bind fun bt273 => ((emit_Next.f k 0 0 10 5 0 35 ([] : List (S46)) (([(([(⟨0, 2, (⟨#[]⟩ : ByteArray), 0⟩ : S61)] : List (S61)))] : List (List (S61)))) (([(⟨t252⟩ : S50)] : List (S50)))).bind fun bt284 => ((emit_Take.f k 2 9 (([(⟨([] : List (S70))⟩ : S50), (⟨t252⟩ : S50)] : List (S50)))).bind fun bt289 => (if t261 = true then (if t260 = 2 then (if t266 = true then (none) else (if bt273.2 = true then (none) else (if bt284.2 = true then (none) else (if bt289.1 = 2 then (if bt289.2.1 = 9 then ((ebbtideref06_Of.f k (([3] : List Int))).bind fun bt298 => ((ebbtideref08_Items.f k bt289.2.2 (([(⟨2, (⟨#[99, 112, 117]⟩ : ByteArray), (⟨bt298.1, (⟨bt298.2.1, bt298.2.2.1⟩ : S52), bt298.2.2.2.1, bt298.2.2.2.2⟩ : S54)⟩ : S56)] : List (S56)))).bind fun t306 => (if t306 = true then ((emit_Same.f k bt289.1 bt289.2.1 bt289.2.2 bt289.1 bt289.2.1 bt289.2.2).bind fun t307 => (if t307 = true then ((emit_Same.f k bt289.1 bt289.2.1 bt289.2.2 0 0 ([] : List (S56))).bind fun t308 => (some (!t308))) else (none))) else (none)))) else (none)) else (none))))) else (none)) else (none))))) = some r := by first | (rw [hy267]; with_reducible exact H) | (have H2_ := (Option.bind_some _ _).symm.trans H; rw [hy267]; with_reducible exact H2_) | (have H2_ := (Option.bind_some _ _).symm.trans H; with_reducible exact H2_) | with_reducible exact H | (rw [hy267]; exact H) | exact H
 have Ny267 := Aside0.mk hy267
 clear hy267
 obtain ⟨y270, hy270⟩ : ∃ y_ : List (S50), y_ = (([(⟨t252⟩ : S50)] : List (S50))) := ⟨_, rfl⟩
 replace H : ((emit_Next.f k 0 0 10 5 0 35 y267 ([] : List (List (S61))) y270).bind fun bt273 => ((emit_Next.f k 0 0 10 5 0 35 ([] : List (S46)) (([(([(⟨0, 2, (⟨#[]⟩ : ByteArray), 0⟩ : S61)] : List (S61)))] : List (List (S61)))) (([(⟨t252⟩ : S50)] : List (S50)))).bind fun bt284 => ((emit_Take.f k 2 9 (([(⟨([] : List (S70))⟩ : S50), (⟨t252⟩ : S50)] : List (S50)))).bind fun bt289 => (if t261 = true then (if t260 = 2 then (if t266 = true then (none) else (if bt273.2 = true then (none) else (if bt284.2 = true then (none) else (if bt289.1 = 2 then (if bt289.2.1 = 9 then ((ebbtideref06_Of.f k (([3] : List Int))).bind fun bt298 => ((ebbtideref08_Items.f k bt289.2.2 (([(⟨2, (⟨#[99, 112, 117]⟩ : ByteArray), (⟨bt298.1, (⟨bt298.2.1, bt298.2.2.1⟩ : S52), bt298.2.2.2.1, bt298.2.2.2.2⟩ : S54)⟩ : S56)] : List (S56)))).bind fun t306 => (if t306 = true then ((emit_Same.f k bt289.1 bt289.2.1 bt289.2.2 bt289.1 bt289.2.1 bt289.2.2).bind fun t307 => (if t307 = true then ((emit_Same.f k bt289.1 bt289.2.1 bt289.2.2 0 0 ([] : List (S56))).bind fun t308 => (some (!t308))) else (none))) else (none)))) else (none)) else (none))))) else (none)) else (none))))) = some r := by first | (rw [hy270]; with_reducible exact H) | (have H2_ := (Option.bind_some _ _).symm.trans H; rw [hy270]; with_reducible exact H2_) | (have H2_ := (Option.bind_some _ _).symm.trans H; with_reducible exact H2_) | with_reducible exact H | (rw [hy270]; exact H) | exact H
 have Ny270 := Aside0.mk hy270
 clear hy270
 obtain ⟨⟨t273, t274⟩, A4, H⟩ := bs H
 try dsimp only at H
 obtain ⟨y275, hy275⟩ : ∃ y_ : List (S61), y_ = (([(⟨0, 2, (⟨#[]⟩ : ByteArray), 0⟩ : S61)] : List (S61))) := ⟨_, rfl⟩
 replace H : ((emit_Next.f k 0 0 10 5 0 35 ([] : List (S46)) (([y275] : List (List (S61)))) (([(⟨t252⟩ : S50)] : List (S50)))).bind fun bt284 => ((emit_Take.f k 2 9 (([(⟨([] : List (S70))⟩ : S50), (⟨t252⟩ : S50)] : List (S50)))).bind fun bt289 => (if t261 = true then (if t260 = 2 then (if t266 = true then (none) else (if t274 = true then (none) else (if bt284.2 = true then (none) else (if bt289.1 = 2 then (if bt289.2.1 = 9 then ((ebbtideref06_Of.f k (([3] : List Int))).bind fun bt298 => ((ebbtideref08_Items.f k bt289.2.2 (([(⟨2, (⟨#[99, 112, 117]⟩ : ByteArray), (⟨bt298.1, (⟨bt298.2.1, bt298.2.2.1⟩ : S52), bt298.2.2.2.1, bt298.2.2.2.2⟩ : S54)⟩ : S56)] : List (S56)))).bind fun t306 => (if t306 = true then ((emit_Same.f k bt289.1 bt289.2.1 bt289.2.2 bt289.1 bt289.2.1 bt289.2.2).bind fun t307 => (if t307 = true then ((emit_Same.f k bt289.1 bt289.2.1 bt289.2.2 0 0 ([] : List (S56))).bind fun t308 => (some (!t308))) else (none))) else (none)))) else (none)) else (none))))) else (none)) else (none)))) = some r := by first | (rw [hy275]; with_reducible exact H) | (have H2_ := (Option.bind_some _ _).symm.trans H; rw [hy275]; with_reducible exact H2_) | (have H2_ := (Option.bind_some _ _).symm.trans H; with_reducible exact H2_) | with_reducible exact H | (rw [hy275]; exact H) | exact H
 have Ny275 := Aside0.mk hy275
 clear hy275
 obtain ⟨y278, hy278⟩ : ∃ y_ : List (List (S61)), y_ = (([y275] : List (List (S61)))) := ⟨_, rfl⟩
 replace H : ((emit_Next.f k 0 0 10 5 0 35 ([] : List (S46)) y278 (([(⟨t252⟩ : S50)] : List (S50)))).bind fun bt284 => ((emit_Take.f k 2 9 (([(⟨([] : List (S70))⟩ : S50), (⟨t252⟩ : S50)] : List (S50)))).bind fun bt289 => (if t261 = true then (if t260 = 2 then (if t266 = true then (none) else (if t274 = true then (none) else (if bt284.2 = true then (none) else (if bt289.1 = 2 then (if bt289.2.1 = 9 then ((ebbtideref06_Of.f k (([3] : List Int))).bind fun bt298 => ((ebbtideref08_Items.f k bt289.2.2 (([(⟨2, (⟨#[99, 112, 117]⟩ : ByteArray), (⟨bt298.1, (⟨bt298.2.1, bt298.2.2.1⟩ : S52), bt298.2.2.2.1, bt298.2.2.2.2⟩ : S54)⟩ : S56)] : List (S56)))).bind fun t306 => (if t306 = true then ((emit_Same.f k bt289.1 bt289.2.1 bt289.2.2 bt289.1 bt289.2.1 bt289.2.2).bind fun t307 => (if t307 = true then ((emit_Same.f k bt289.1 bt289.2.1 bt289.2.2 0 0 ([] : List (S56))).bind fun t308 => (some (!t308))) else (none))) else (none)))) else (none)) else (none))))) else (none)) else (none)))) = some r := by first | (rw [hy278]; with_reducible exact H) | (have H2_ := (Option.bind_some _ _).symm.trans H; rw [hy278]; with_reducible exact H2_) | (have H2_ := (Option.bind_some _ _).symm.trans H; with_reducible exact H2_) | with_reducible exact H | (rw [hy278]; exact H) | exact H
 have Ny278 := Aside0.mk hy278
 clear hy278
 obtain ⟨y281, hy281⟩ : ∃ y_ : List (S50), y_ = (([(⟨t252⟩ : S50)] : List (S50))) := ⟨_, rfl⟩
 replace H : ((emit_Next.f k 0 0 10 5 0 35 ([] : List (S46)) y278 y281).bind fun bt284 => ((emit_Take.f k 2 9 (([(⟨([] : List (S70))⟩ : S50), (⟨t252⟩ : S50)] : List (S50)))).bind fun bt289 => (if t261 = true then (if t260 = 2 then (if t266 = true then (none) else (if t274 = true then (none) else (if bt284.2 = true then (none) else (if bt289.1 = 2 then (if bt289.2.1 = 9 then ((ebbtideref06_Of.f k (([3] : List Int))).bind fun bt298 => ((ebbtideref08_Items.f k bt289.2.2 (([(⟨2, (⟨#[99, 112, 117]⟩ : ByteArray), (⟨bt298.1, (⟨bt298.2.1, bt298.2.2.1⟩ : S52), bt298.2.2.2.1, bt298.2.2.2.2⟩ : S54)⟩ : S56)] : List (S56)))).bind fun t306 => (if t306 = true then ((emit_Same.f k bt289.1 bt289.2.1 bt289.2.2 bt289.1 bt289.2.1 bt289.2.2).bind fun t307 => (if t307 = true then ((emit_Same.f k bt289.1 bt289.2.1 bt289.2.2 0 0 ([] : List (S56))).bind fun t308 => (some (!t308))) else (none))) else (none)))) else (none)) else (none))))) else (none)) else (none)))) = some r := by first | (rw [hy281]; with_reducible exact H) | (have H2_ := (Option.bind_some _ _).symm.trans H; rw [hy281]; with_reducible exact H2_) | (have H2_ := (Option.bind_some _ _).symm.trans H; with_reducible exact H2_) | with_reducible exact H | (rw [hy281]; exact H) | exact H
 have Ny281 := Aside0.mk hy281
 clear hy281
 obtain ⟨⟨t284, t285⟩, A5, H⟩ := bs H
 try dsimp only at H
 obtain ⟨y286, hy286⟩ : ∃ y_ : List (S50), y_ = (([(⟨([] : List (S70))⟩ : S50), (⟨t252⟩ : S50)] : List (S50))) := ⟨_, rfl⟩
 replace H : ((emit_Take.f k 2 9 y286).bind fun bt289 => (if t261 = true then (if t260 = 2 then (if t266 = true then (none) else (if t274 = true then (none) else (if t285 = true then (none) else (if bt289.1 = 2 then (if bt289.2.1 = 9 then ((ebbtideref06_Of.f k (([3] : List Int))).bind fun bt298 => ((ebbtideref08_Items.f k bt289.2.2 (([(⟨2, (⟨#[99, 112, 117]⟩ : ByteArray), (⟨bt298.1, (⟨bt298.2.1, bt298.2.2.1⟩ : S52), bt298.2.2.2.1, bt298.2.2.2.2⟩ : S54)⟩ : S56)] : List (S56)))).bind fun t306 => (if t306 = true then ((emit_Same.f k bt289.1 bt289.2.1 bt289.2.2 bt289.1 bt289.2.1 bt289.2.2).bind fun t307 => (if t307 = true then ((emit_Same.f k bt289.1 bt289.2.1 bt289.2.2 0 0 ([] : List (S56))).bind fun t308 => (some (!t308))) else (none))) else (none)))) else (none)) else (none))))) else (none)) else (none))) = some r := by first | (rw [hy286]; with_reducible exact H) | (have H2_ := (Option.bind_some _ _).symm.trans H; rw [hy286]; with_reducible exact H2_) | (have H2_ := (Option.bind_some _ _).symm.trans H; with_reducible exact H2_) | with_reducible exact H | (rw [hy286]; exact H) | exact H
 have Ny286 := Aside0.mk hy286
 clear hy286
 obtain ⟨⟨t289, t290, t291⟩, A6, H⟩ := bs H
 try dsimp only at H
 by_cases c7 : t261 = true
 ·
  subst c7
  rw [if_pos rfl] at H
  by_cases c8 : t260 = 2
  ·
   rw [if_pos c8] at H
   have c8b0 : (t260 == 2) = true := beq_iff_eq.mpr c8
   have c8b1 : (t260 != 2) = false := bne_eq_false_iff_eq.mpr c8
   clear c8
   by_cases c9 : t266 = true
   ·
    subst c9
    rw [if_pos rfl] at H
    exact absurd H (by simp)
   ·
    replace c9 := Bool.eq_false_iff.mpr c9
    subst c9
    rw [if_neg (show ¬ (false = true) by decide)] at H
    by_cases c10 : t274 = true
    ·
     subst c10
     rw [if_pos rfl] at H
     exact absurd H (by simp)
    ·
     replace c10 := Bool.eq_false_iff.mpr c10
     subst c10
     rw [if_neg (show ¬ (false = true) by decide)] at H
     by_cases c11 : t285 = true
     ·
      subst c11
      rw [if_pos rfl] at H
      exact absurd H (by simp)
     ·
      replace c11 := Bool.eq_false_iff.mpr c11
      subst c11
      rw [if_neg (show ¬ (false = true) by decide)] at H
      by_cases c12 : t289 = 2
      ·
       rw [if_pos c12] at H
       have c12b0 : (t289 == 2) = true := beq_iff_eq.mpr c12
       have c12b1 : (t289 != 2) = false := bne_eq_false_iff_eq.mpr c12
       clear c12
       by_cases c13 : t290 = 9
       ·
        rw [if_pos c13] at H
        have c13b0 : (t290 == 9) = true := beq_iff_eq.mpr c13
        have c13b1 : (t290 != 9) = false := bne_eq_false_iff_eq.mpr c13
        clear c13
        obtain ⟨y295, hy295⟩ : ∃ y_ : List Int, y_ = (([3] : List Int)) := ⟨_, rfl⟩
        replace H : ((ebbtideref06_Of.f k y295).bind fun bt298 => ((ebbtideref08_Items.f k t291 (([(⟨2, (⟨#[99, 112, 117]⟩ : ByteArray), (⟨bt298.1, (⟨bt298.2.1, bt298.2.2.1⟩ : S52), bt298.2.2.2.1, bt298.2.2.2.2⟩ : S54)⟩ : S56)] : List (S56)))).bind fun t306 => (if t306 = true then ((emit_Same.f k t289 t290 t291 t289 t290 t291).bind fun t307 => (if t307 = true then ((emit_Same.f k t289 t290 t291 0 0 ([] : List (S56))).bind fun t308 => (some (!t308))) else (none))) else (none)))) = some r := by first | (rw [hy295]; with_reducible exact H) | (have H2_ := (Option.bind_some _ _).symm.trans H; rw [hy295]; with_reducible exact H2_) | (have H2_ := (Option.bind_some _ _).symm.trans H; with_reducible exact H2_) | with_reducible exact H | (rw [hy295]; exact H) | exact H
        have Ny295 := Aside0.mk hy295
        clear hy295
        obtain ⟨⟨t298, t299, t300, t301, t302⟩, A14, H⟩ := bs H
        try dsimp only at H
        obtain ⟨y303, hy303⟩ : ∃ y_ : List (S56), y_ = (([(⟨2, (⟨#[99, 112, 117]⟩ : ByteArray), (⟨t298, (⟨t299, t300⟩ : S52), t301, t302⟩ : S54)⟩ : S56)] : List (S56))) := ⟨_, rfl⟩
        replace H : ((ebbtideref08_Items.f k t291 y303).bind fun t306 => (if t306 = true then ((emit_Same.f k t289 t290 t291 t289 t290 t291).bind fun t307 => (if t307 = true then ((emit_Same.f k t289 t290 t291 0 0 ([] : List (S56))).bind fun t308 => (some (!t308))) else (none))) else (none))) = some r := by first | (rw [hy303]; with_reducible exact H) | (have H2_ := (Option.bind_some _ _).symm.trans H; rw [hy303]; with_reducible exact H2_) | (have H2_ := (Option.bind_some _ _).symm.trans H; with_reducible exact H2_) | with_reducible exact H | (rw [hy303]; exact H) | exact H
        have Ny303 := Aside0.mk hy303
        clear hy303
        obtain ⟨t306, A15, H⟩ := bs H
        try dsimp only at H
        by_cases c16 : t306 = true
        ·
         subst c16
         rw [if_pos rfl] at H
         obtain ⟨t307, A17, H⟩ := bs H
         try dsimp only at H
         by_cases c18 : t307 = true
         ·
          subst c18
          rw [if_pos rfl] at H
          obtain ⟨t308, A19, H⟩ := bs H
          try dsimp only at H
          obtain rfl := Option.some.inj H
          go_enter Try.func7, Try.ntmps7
          try go_wp2_with (first | ((with_reducible refine gate_dst (N := 1) rfl ?_); (try (refine gate_guard (by rfl) ?_; dsimp only)); refine bx (N := 1) #[.int .i64 0, .int .i64 0, .int .i64 0, .int .i64 0, .int .i64 0] 23 ?_; intro gb251 hg w20 hbox hb; have BK251 := Aside0.mk (hbox); have GW251 := gw hg (uW HB.out); have GE251 := GW251; replace HB := cW HB hb; clear hb hbox hg; obtain ⟨hcz21_0, hcz21_1, hcz21_2, hcz21_3, hcz21_4, hfz21_0, hfz21_1, hfz21_2, hfz21_3, hfz21_4⟩ := z5 BK251) | ((with_reducible refine gate_store (t := 23) (p := 1) rfl ?_); refine store_event (t := 23) (p := 1) (v := ?vo_w22) (w1 := (((((w20.setCell ⟨gb251, 0, none⟩ (.int .i64 0)).setCell ⟨gb251, 1, none⟩ (.int .i64 0)).setCell ⟨gb251, 2, none⟩ (.int .i64 10)).setCell ⟨gb251, 3, none⟩ (.int .i64 5)).setCell ⟨gb251, 4, none⟩ (.int .i64 0))) ?hg ?ho ?hn ?hr ?_; (case ho => rfl); (case hg => rfl); (case hn => rfl); (case hr => first | (go_simp; done) | (go_simp; rfl)); intro w22 hw; have n0_ : Aside0 (w22.heap[gb251]? = some (.cells #[.int .i64 0, .int .i64 0, .int .i64 10, .int .i64 5, .int .i64 0] 23 (0, 0))) := ⟨(by rw [hw]; exact (by (with_reducible repeat (first | refine blk_drewN ?_ _ | refine blk_drew ?_ | refine blk_alloc ?_ _)); refine blk_put (cs := #[.int .i64 0, .int .i64 0, .int .i64 10, .int .i64 5, .int .i64 0]) ?_ 4 _ rfl; (with_reducible repeat (first | refine blk_drewN ?_ _ | refine blk_drew ?_ | refine blk_alloc ?_ _)); refine blk_put (cs := #[.int .i64 0, .int .i64 0, .int .i64 10, .int .i64 0, .int .i64 0]) ?_ 3 _ rfl; (with_reducible repeat (first | refine blk_drewN ?_ _ | refine blk_drew ?_ | refine blk_alloc ?_ _)); refine blk_put (cs := #[.int .i64 0, .int .i64 0, .int .i64 0, .int .i64 0, .int .i64 0]) ?_ 2 _ rfl; (with_reducible repeat (first | refine blk_drewN ?_ _ | refine blk_drew ?_ | refine blk_alloc ?_ _)); refine blk_put (cs := #[.int .i64 0, .int .i64 0, .int .i64 0, .int .i64 0, .int .i64 0]) ?_ 1 _ rfl; (with_reducible repeat (first | refine blk_drewN ?_ _ | refine blk_drew ?_ | refine blk_alloc ?_ _)); refine blk_put (cs := #[.int .i64 0, .int .i64 0, .int .i64 0, .int .i64 0, .int .i64 0]) ?_ 0 _ rfl; exact uB <| BK251.out))⟩; have n1_ : Aside0 (Below w.heap.size w w22) := ⟨(by rw [hw]; exact bl)⟩; clear hw; clear BK251; clear HB; have BK251 := n0_; have HB := n1_; clear n0_ n1_) | (refine gL (some 17) rfl Try.func19 #[.agg #[.slice none 0 0], .agg #[.int .i64 1, .int .i64 2, .string (⟨#[99, 112, 117]⟩ : ByteArray), .int .i64 3]] ?_; (refine (ebbtideref11_Apply.calls k (fun k_ => False) _ _ ([] : List (S70)) 1 2 (⟨#[99, 112, 117]⟩ : ByteArray) 3 t252 t255 _ ?side1 A1.out).mono ?_); (case side1 => exact Kd.V_nil _ _ _ _ _); rintro e w23 ⟨v253, rfl, ho0, hb⟩; refine ⟨_, rfl, ?_⟩; have HO254 := Aside0.mk (Kd.N_lower (Kd.N_mono (ok' := fun k_ => k_ ≠ gb251) ho0 (fun k_ hk_ => Or.elim hk_ (fun hs_ => (hs_).elim) (fun hn_ => (Kd.freshB (g := gb251) (o := .cells #[.int .i64 0, .int .i64 0, .int .i64 10, .int .i64 5, .int .i64 0] 23 (0, 0)) (uB BK251.out) k_ hn_)))) (below_size bl)); replace BK251 := cB BK251 hb; replace HB := Aside0.mk (below_step bl hb); (try clear hb); (try clear ho0)) | ((with_reducible refine gate_dst (N := 2) rfl ?_); (try (refine gate_guard (by rfl) ?_; dsimp only)); refine bx (N := 2) #[.slice none 0 0] 50 ?_; intro gb256 hg w24 hbox hb; replace HO254 := Aside0.mk (Kd.N_below (Kd.N_elderB (by (with_reducible repeat (first | apply Kd.N_alloc | apply Kd.N_drewN | apply Kd.N_drew)); exact HO254.out) gb256 (Nat.le_of_eq hg.symm)) hb); have BK256 := Aside0.mk (hbox); have GW256 := gw hg bl; have GE256 := GW256; replace HB := Aside0.mk (below_step bl hb); have NB251_256 := Aside0.mk ((by rw [hg]; exact Nat.ne_of_lt (blk_lt (g := gb251) (o := .cells #[.int .i64 0, .int .i64 0, .int .i64 10, .int .i64 5, .int .i64 0] 23 (0, 0)) (uB BK251.out)) : gb251 ≠ gb256)); have NB256_251 := Aside0.mk ((by rw [hg]; exact Nat.ne_of_gt (blk_lt (g := gb251) (o := .cells #[.int .i64 0, .int .i64 0, .int .i64 10, .int .i64 5, .int .i64 0] 23 (0, 0)) (uB BK251.out)) : gb256 ≠ gb251)); replace BK251 := cB BK251 hb; clear hb hbox hg; obtain ⟨Ao25, co25, eo25⟩ := Kd.N_slice HO254.out; subst eo25; have hnb26 := NB256_251.out; have hnc26 := NB251_256.out; obtain ⟨hcz27_0, hfz27_0⟩ := z1 BK256) | ((with_reducible refine gate_store (t := 50) (p := 2) rfl ?_); refine store_event (t := 50) (p := 2) (v := ?vo_w28) (w1 := (w24.setCell ⟨gb256, 0, none⟩ (.slice Ao25 t252.length co25))) ?hg ?ho ?hn ?hr ?_; (case ho => rfl); (case hg => rfl); (case hn => rfl); (case hr => first | (go_simp; done) | (go_simp; rfl)); intro w28 hw; have n0_ : Aside0 (Kd.N k70 70 w28 w.heap.size (fun k_ => k_ ≠ gb251 ∧ k_ ≠ gb256) (.slice Ao25 t252.length co25) t252) := ⟨(by rw [hw]; exact (by (with_reducible repeat (first | apply Kd.N_alloc | apply Kd.N_drewN | apply Kd.N_drew)); exact Kd.N_mono (Kd.N_far (p := ⟨gb256, 0, none⟩) (Kd.N_mono HO254.out (fun k_ hk => (⟨hk, hk.2⟩ : _ ∧ k_ ≠ gb256))) (fun _ hk => hk.2) (.slice Ao25 t252.length co25)) (fun _ hk => ⟨hk.1.1, hk.1.2⟩)))⟩; have n1_ : Aside0 (w28.heap[gb251]? = some (.cells #[.int .i64 0, .int .i64 0, .int .i64 10, .int .i64 5, .int .i64 0] 23 (0, 0))) := ⟨(by rw [hw]; exact (by (with_reducible repeat (first | refine blk_drewN ?_ _ | refine blk_drew ?_ | refine blk_alloc ?_ _)); refine blk_far ?_ NB251_256.out _; exact uB <| BK251.out))⟩; have n2_ : Aside0 (w28.heap[gb256]? = some (.cells #[.slice Ao25 t252.length co25] 50 (0, 0))) := ⟨(by rw [hw]; exact (by (with_reducible repeat (first | refine blk_drewN ?_ _ | refine blk_drew ?_ | refine blk_alloc ?_ _)); refine blk_put (cs := #[.slice none 0 0]) ?_ 0 _ rfl; exact uB <| BK256.out))⟩; have n3_ : Aside0 (Below w.heap.size w w28) := ⟨(by rw [hw]; exact bl)⟩; clear hw; clear HO254; clear BK251; clear BK256; clear HB; have HO254 := n0_; have BK251 := n1_; have BK256 := n2_; have HB := n3_; clear n0_ n1_ n2_ n3_; obtain ⟨hcz29_0, hcz29_1, hcz29_2, hcz29_3, hcz29_4, hfz29_0, hfz29_1, hfz29_2, hfz29_3, hfz29_4⟩ := z5 BK251; obtain ⟨hcz30_0, hfz30_0⟩ := z1 BK256) | ((with_reducible refine gate_dst (N := 23) rfl ?_); (try (refine gate_guard (by rfl) ?_; dsimp only)); refine Kd.N_lit k50 _ 50 ?hg (N' := 23) ?hd (xs := ([(⟨t252⟩ : S50)] : List (S50))) (inner := [.slice Ao25 t252.length co25]) (ok := (fun k_ => k_ ≠ gb251 ∧ k_ ≠ gb256)) (okp := (fun k_ => k_ ≠ gb251 ∧ k_ ≠ gb256)) ?hr ?hp (fun _ hk => hk) ((show ∀ k_, w28.heap.size ≤ k_ → (fun k_ => k_ ≠ gb251 ∧ k_ ≠ gb256) k_ from fun k_ hk => ⟨Kd.freshB (g := gb251) (o := .cells #[.int .i64 0, .int .i64 0, .int .i64 10, .int .i64 5, .int .i64 0] 23 (0, 0)) (uB BK251.out) k_ hk, Kd.freshB (g := gb256) (o := .cells #[.slice Ao25 t252.length co25] 50 (0, 0)) (uB BK256.out) k_ hk⟩) _ (Nat.le_refl _)) (Below.refl _ _) (Nat.le_refl _) (by simp) ?_; (case hd => rfl); (case hg => rfl); (case hr => first | (go_simp; done) | (go_simp; rfl)); (case hp => exact (Reps.one (show Kd.FK k50 _ _ (⟨t252⟩ : S50) [.slice Ao25 t252.length co25] from (k50_mkF _ _ (⟨t252⟩ : S50) (Kd.N_reads' (Kd.N_mono (ok' := (fun k_ => k_ ≠ gb251 ∧ k_ ≠ gb256)) (HO254.out) (fun k_ hk => ⟨hk.1, hk.2⟩))).2.1 (Kd.N_F (Kd.N_mono (ok' := (fun k_ => k_ ≠ gb251 ∧ k_ ≠ gb256)) (HO254.out) (fun k_ hk => ⟨hk.1, hk.2⟩))))) (Reps.none _ _))); intro v258 w31 ho32 hb hg_ hnew_; clear hg_ hnew_; (first | rw [← Ny257.out] at ho32 | (simp only [Int.reduceToNat] at ho32; rw [← Ny257.out] at ho32)); replace HO254 := Aside0.mk (Kd.N_elder' (by (with_reducible repeat (first | apply Kd.N_alloc | apply Kd.N_drewN | apply Kd.N_drew)); exact HO254.out) (Kd.N_base ho32) hb); have HO259 := Aside0.mk (Kd.N_lower ho32 (below_size bl)); replace BK251 := cB BK251 hb; replace BK256 := cB BK256 hb; replace HB := Aside0.mk (below_step bl hb); clear hb ho32; obtain ⟨Ao33, co33, eo33⟩ := Kd.N_slice HO259.out; subst eo33) | (refine gL (some 24) rfl Try.func9 #[.agg #[.int .i64 0, .int .i64 0, .int .i64 10, .int .i64 5, .int .i64 0], .int .i64 35, .slice none 0 0, .slice none 0 0, .slice Ao33 y257.length co33] ?_; (refine (emit_Next.calls k 0 0 10 5 0 35 _ _ ([] : List (S46)) _ _ ([] : List (List (S61))) _ _ y257 t260 true _ ?side1 ?side2 ?side3 ?side4 ?side5 ?side6 A2.out).mono ?_); (case side1 => exact Kd.C_nil _ _); (case side2 => exact Nat.le_refl _); (case side3 => exact Kd.C_nil _ _); (case side4 => exact Nat.le_refl _); (case side5 => exact uC <| (Kd.N_reads' HO259.out).2.2); (case side6 => exact (Kd.N_reads' HO259.out).2.1); rintro e w34 ⟨rfl, hb⟩; refine ⟨_, rfl, ?_⟩; replace HO254 := Aside0.mk (Kd.N_below (by (with_reducible repeat (first | apply Kd.N_alloc | apply Kd.N_drewN | apply Kd.N_drew)); exact HO254.out) hb); replace HO259 := Aside0.mk (Kd.N_below (by (with_reducible repeat (first | apply Kd.N_alloc | apply Kd.N_drewN | apply Kd.N_drew)); exact HO259.out) hb); replace BK251 := cB BK251 hb; replace BK256 := cB BK256 hb; replace HB := Aside0.mk (below_step bl hb); (try clear hb); obtain ⟨hcz35_0, hcz35_1, hcz35_2, hcz35_3, hcz35_4, hfz35_0, hfz35_1, hfz35_2, hfz35_3, hfz35_4⟩ := z5 BK251; obtain ⟨hcz36_0, hfz36_0⟩ := z1 BK256) | ((with_reducible refine gate_dst (N := 30) rfl ?_); (try (refine gate_guard (by rfl) ?_; dsimp only)); refine Kd.N_lit k50 _ 50 ?hg (N' := 30) ?hd (xs := ([(⟨t252⟩ : S50)] : List (S50))) (inner := [.slice Ao25 t252.length co25]) (ok := (fun k_ => some k_ ≠ (.slice Ao33 y257.length co33 : Value).ownBlock ∧ k_ ≠ gb251 ∧ k_ ≠ gb256)) (okp := (fun k_ => some k_ ≠ (.slice Ao33 y257.length co33 : Value).ownBlock ∧ k_ ≠ gb251 ∧ k_ ≠ gb256)) ?hr ?hp (fun _ hk => hk) ((show ∀ k_, w34.heap.size ≤ k_ → (fun k_ => some k_ ≠ (.slice Ao33 y257.length co33 : Value).ownBlock ∧ k_ ≠ gb251 ∧ k_ ≠ gb256) k_ from fun k_ hk => ⟨Kd.fresh' (Kd.N_lt (by (with_reducible repeat (first | apply Kd.N_alloc | apply Kd.N_drewN | apply Kd.N_drew)); exact HO259.out)) k_ hk, Kd.freshB (g := gb251) (o := .cells #[.int .i64 0, .int .i64 0, .int .i64 10, .int .i64 5, .int .i64 0] 23 (0, 0)) (uB BK251.out) k_ hk, Kd.freshB (g := gb256) (o := .cells #[.slice Ao25 t252.length co25] 50 (0, 0)) (uB BK256.out) k_ hk⟩) _ (Nat.le_refl _)) (Below.refl _ _) (Nat.le_refl _) (by simp) ?_; (case hd => rfl); (case hg => rfl); (case hr => first | (go_simp; done) | (go_simp; rfl)); (case hp => exact (Reps.one (show Kd.FK k50 _ _ (⟨t252⟩ : S50) [.slice Ao25 t252.length co25] from (k50_mkF _ _ (⟨t252⟩ : S50) (Kd.N_reads' (Kd.N_mono (ok' := (fun k_ => some k_ ≠ (.slice Ao33 y257.length co33 : Value).ownBlock ∧ k_ ≠ gb251 ∧ k_ ≠ gb256)) (HO254.out) (fun k_ hk => ⟨hk.2, ⟨hk.1.1, hk.1.2⟩⟩))).2.1 (Kd.N_F (Kd.N_mono (ok' := (fun k_ => some k_ ≠ (.slice Ao33 y257.length co33 : Value).ownBlock ∧ k_ ≠ gb251 ∧ k_ ≠ gb256)) (HO254.out) (fun k_ hk => ⟨hk.2, ⟨hk.1.1, hk.1.2⟩⟩))))) (Reps.none _ _))); intro v263 w37 ho38 hb hg_ hnew_; clear hg_ hnew_; (first | rw [← Ny262.out] at ho38 | (simp only [Int.reduceToNat] at ho38; rw [← Ny262.out] at ho38)); replace HO254 := Aside0.mk (Kd.N_elder' (by (with_reducible repeat (first | apply Kd.N_alloc | apply Kd.N_drewN | apply Kd.N_drew)); exact HO254.out) (Kd.N_base ho38) hb); replace HO259 := Aside0.mk (Kd.N_elder' (by (with_reducible repeat (first | apply Kd.N_alloc | apply Kd.N_drewN | apply Kd.N_drew)); exact HO259.out) (Kd.N_base ho38) hb); have HO264 := Aside0.mk (Kd.N_lower ho38 (below_size bl)); replace BK251 := cB BK251 hb; replace BK256 := cB BK256 hb; replace HB := Aside0.mk (below_step bl hb); clear hb ho38; obtain ⟨Ao39, co39, eo39⟩ := Kd.N_slice HO264.out; subst eo39) | (refine gL (some 31) rfl Try.func9 #[.agg #[.int .i64 0, .int .i64 0, .int .i64 10, .int .i64 5, .int .i64 0], .int .i64 34, .slice none 0 0, .slice none 0 0, .slice Ao39 y262.length co39] ?_; (refine (emit_Next.calls k 0 0 10 5 0 34 _ _ ([] : List (S46)) _ _ ([] : List (List (S61))) _ _ y262 t265 false _ ?side1 ?side2 ?side3 ?side4 ?side5 ?side6 A3.out).mono ?_); (case side1 => exact Kd.C_nil _ _); (case side2 => exact Nat.le_refl _); (case side3 => exact Kd.C_nil _ _); (case side4 => exact Nat.le_refl _); (case side5 => exact uC <| (Kd.N_reads' HO264.out).2.2); (case side6 => exact (Kd.N_reads' HO264.out).2.1); rintro e w40 ⟨rfl, hb⟩; refine ⟨_, rfl, ?_⟩; replace HO254 := Aside0.mk (Kd.N_below (by (with_reducible repeat (first | apply Kd.N_alloc | apply Kd.N_drewN | apply Kd.N_drew)); exact HO254.out) hb); replace HO259 := Aside0.mk (Kd.N_below (by (with_reducible repeat (first | apply Kd.N_alloc | apply Kd.N_drewN | apply Kd.N_drew)); exact HO259.out) hb); replace HO264 := Aside0.mk (Kd.N_below (by (with_reducible repeat (first | apply Kd.N_alloc | apply Kd.N_drewN | apply Kd.N_drew)); exact HO264.out) hb); replace BK251 := cB BK251 hb; replace BK256 := cB BK256 hb; replace HB := Aside0.mk (below_step bl hb); (try clear hb); obtain ⟨hcz41_0, hcz41_1, hcz41_2, hcz41_3, hcz41_4, hfz41_0, hfz41_1, hfz41_2, hfz41_3, hfz41_4⟩ := z5 BK251) | ((with_reducible refine gate_dst (N := 37) rfl ?_); (try (refine gate_guard (by rfl) ?_; dsimp only)); refine Kd.R_lit k46 _ 46 ?hg (N := 37) ?hd (xs := ([(⟨2, 0⟩ : S46)] : List (S46))) (inner := [.int .i64 2, .int .i64 0]) (ok := fun _ => True) (okp := fun _ => True) ?hr ?hp (fun _ hk => hk) trivial (Below.refl _ _) (Nat.le_refl _) (by simp) ?_; (case hd => rfl); (case hg => rfl); (case hr => first | (go_simp; done) | (go_simp; rfl)); (case hp => exact (Reps.c2 (show Kd.M k46 _ _ _ (⟨2, 0⟩ : S46) [.int .i64 2, .int .i64 0] from (k46_mkM _ _ _ (⟨2, 0⟩ : S46) )) (Reps.none _ _))); intro v268 w42 ho43 hb hg_ hnew_; clear hg_ hnew_; (first | rw [← Ny267.out] at ho43 | (simp only [Int.reduceToNat] at ho43; rw [← Ny267.out] at ho43)); replace HO254 := Aside0.mk (Kd.N_elder' (by (with_reducible repeat (first | apply Kd.N_alloc | apply Kd.N_drewN | apply Kd.N_drew)); exact HO254.out) (Kd.R_base ho43) hb); replace HO259 := Aside0.mk (Kd.N_elder' (by (with_reducible repeat (first | apply Kd.N_alloc | apply Kd.N_drewN | apply Kd.N_drew)); exact HO259.out) (Kd.R_base ho43) hb); replace HO264 := Aside0.mk (Kd.N_elder' (by (with_reducible repeat (first | apply Kd.N_alloc | apply Kd.N_drewN | apply Kd.N_drew)); exact HO264.out) (Kd.R_base ho43) hb); have HO269 := Aside0.mk (Kd.R_lower ho43 (below_size bl)); replace BK251 := cB BK251 hb; replace BK256 := cB BK256 hb; replace HB := Aside0.mk (below_step bl hb); clear hb ho43; obtain ⟨hcz44_0, hfz44_0⟩ := z1 BK256) | ((with_reducible refine gate_dst (N := 39) rfl ?_); (try (refine gate_guard (by rfl) ?_; dsimp only)); refine Kd.N_lit k50 _ 50 ?hg (N' := 39) ?hd (xs := ([(⟨t252⟩ : S50)] : List (S50))) (inner := [.slice Ao25 t252.length co25]) (ok := (fun k_ => some k_ ≠ (.slice Ao33 y257.length co33 : Value).ownBlock ∧ some k_ ≠ (.slice Ao39 y262.length co39 : Value).ownBlock ∧ some k_ ≠ (v268 : Value).ownBlock ∧ k_ ≠ gb251 ∧ k_ ≠ gb256)) (okp := (fun k_ => some k_ ≠ (.slice Ao33 y257.length co33 : Value).ownBlock ∧ some k_ ≠ (.slice Ao39 y262.length co39 : Value).ownBlock ∧ some k_ ≠ (v268 : Value).ownBlock ∧ k_ ≠ gb251 ∧ k_ ≠ gb256)) ?hr ?hp (fun _ hk => hk) ((show ∀ k_, w42.heap.size ≤ k_ → (fun k_ => some k_ ≠ (.slice Ao33 y257.length co33 : Value).ownBlock ∧ some k_ ≠ (.slice Ao39 y262.length co39 : Value).ownBlock ∧ some k_ ≠ (v268 : Value).ownBlock ∧ k_ ≠ gb251 ∧ k_ ≠ gb256) k_ from fun k_ hk => ⟨Kd.fresh' (Kd.N_lt (by (with_reducible repeat (first | apply Kd.N_alloc | apply Kd.N_drewN | apply Kd.N_drew)); exact HO259.out)) k_ hk, Kd.fresh' (Kd.N_lt (by (with_reducible repeat (first | apply Kd.N_alloc | apply Kd.N_drewN | apply Kd.N_drew)); exact HO264.out)) k_ hk, Kd.fresh' (Kd.R_lt (uR HO269.out)) k_ hk, Kd.freshB (g := gb251) (o := .cells #[.int .i64 0, .int .i64 0, .int .i64 10, .int .i64 5, .int .i64 0] 23 (0, 0)) (uB BK251.out) k_ hk, Kd.freshB (g := gb256) (o := .cells #[.slice Ao25 t252.length co25] 50 (0, 0)) (uB BK256.out) k_ hk⟩) _ (Nat.le_refl _)) (Below.refl _ _) (Nat.le_refl _) (by simp) ?_; (case hd => rfl); (case hg => rfl); (case hr => first | (go_simp; done) | (go_simp; rfl)); (case hp => exact (Reps.one (show Kd.FK k50 _ _ (⟨t252⟩ : S50) [.slice Ao25 t252.length co25] from (k50_mkF _ _ (⟨t252⟩ : S50) (Kd.N_reads' (Kd.N_mono (ok' := (fun k_ => some k_ ≠ (.slice Ao33 y257.length co33 : Value).ownBlock ∧ some k_ ≠ (.slice Ao39 y262.length co39 : Value).ownBlock ∧ some k_ ≠ (v268 : Value).ownBlock ∧ k_ ≠ gb251 ∧ k_ ≠ gb256)) (HO254.out) (fun k_ hk => ⟨hk.1.1.2, ⟨hk.1.2, ⟨hk.2, ⟨hk.1.1.1.1, hk.1.1.1.2⟩⟩⟩⟩))).2.1 (Kd.N_F (Kd.N_mono (ok' := (fun k_ => some k_ ≠ (.slice Ao33 y257.length co33 : Value).ownBlock ∧ some k_ ≠ (.slice Ao39 y262.length co39 : Value).ownBlock ∧ some k_ ≠ (v268 : Value).ownBlock ∧ k_ ≠ gb251 ∧ k_ ≠ gb256)) (HO254.out) (fun k_ hk => ⟨hk.1.1.2, ⟨hk.1.2, ⟨hk.2, ⟨hk.1.1.1.1, hk.1.1.1.2⟩⟩⟩⟩))))) (Reps.none _ _))); intro v271 w45 ho46 hb hg_ hnew_; clear hg_ hnew_; (first | rw [← Ny270.out] at ho46 | (simp only [Int.reduceToNat] at ho46; rw [← Ny270.out] at ho46)); replace HO254 := Aside0.mk (Kd.N_elder' (by (with_reducible repeat (first | apply Kd.N_alloc | apply Kd.N_drewN | apply Kd.N_drew)); exact HO254.out) (Kd.N_base ho46) hb); replace HO259 := Aside0.mk (Kd.N_elder' (by (with_reducible repeat (first | apply Kd.N_alloc | apply Kd.N_drewN | apply Kd.N_drew)); exact HO259.out) (Kd.N_base ho46) hb); replace HO264 := Aside0.mk (Kd.N_elder' (by (with_reducible repeat (first | apply Kd.N_alloc | apply Kd.N_drewN | apply Kd.N_drew)); exact HO264.out) (Kd.N_base ho46) hb); replace HO269 := cR HO269 hb; have HO272 := Aside0.mk (Kd.N_lower ho46 (below_size bl)); replace BK251 := cB BK251 hb; replace BK256 := cB BK256 hb; replace HB := Aside0.mk (below_step bl hb); clear hb ho46; obtain ⟨Ao47, co47, eo47⟩ := Kd.R_slice HO269.out; subst eo47; obtain ⟨Ao48, co48, eo48⟩ := Kd.N_slice HO272.out; subst eo48) | (refine gL (some 40) rfl Try.func9 #[.agg #[.int .i64 0, .int .i64 0, .int .i64 10, .int .i64 5, .int .i64 0], .int .i64 35, .slice Ao47 y267.length co47, .slice none 0 0, .slice Ao48 y270.length co48] ?_; (refine (emit_Next.calls k 0 0 10 5 0 35 _ _ y267 _ _ ([] : List (List (S61))) _ _ y270 t273 false _ ?side1 ?side2 ?side3 ?side4 ?side5 ?side6 A4.out).mono ?_); (case side1 => exact uC <| (Kd.R_reads' HO269.out).2.2); (case side2 => exact (Kd.R_reads' HO269.out).2.1); (case side3 => exact Kd.C_nil _ _); (case side4 => exact Nat.le_refl _); (case side5 => exact uC <| (Kd.N_reads' HO272.out).2.2); (case side6 => exact (Kd.N_reads' HO272.out).2.1); rintro e w49 ⟨rfl, hb⟩; refine ⟨_, rfl, ?_⟩; replace HO254 := Aside0.mk (Kd.N_below (by (with_reducible repeat (first | apply Kd.N_alloc | apply Kd.N_drewN | apply Kd.N_drew)); exact HO254.out) hb); replace HO259 := Aside0.mk (Kd.N_below (by (with_reducible repeat (first | apply Kd.N_alloc | apply Kd.N_drewN | apply Kd.N_drew)); exact HO259.out) hb); replace HO264 := Aside0.mk (Kd.N_below (by (with_reducible repeat (first | apply Kd.N_alloc | apply Kd.N_drewN | apply Kd.N_drew)); exact HO264.out) hb); replace HO269 := cR HO269 hb; replace HO272 := Aside0.mk (Kd.N_below (by (with_reducible repeat (first | apply Kd.N_alloc | apply Kd.N_drewN | apply Kd.N_drew)); exact HO272.out) hb); replace BK251 := cB BK251 hb; replace BK256 := cB BK256 hb; replace HB := Aside0.mk (below_step bl hb); (try clear hb); obtain ⟨hcz50_0, hcz50_1, hcz50_2, hcz50_3, hcz50_4, hfz50_0, hfz50_1, hfz50_2, hfz50_3, hfz50_4⟩ := z5 BK251) | ((with_reducible refine gate_dst (N := 46) rfl ?_); (try (refine gate_guard (by rfl) ?_; dsimp only)); refine Kd.R_lit k61 _ 61 ?hg (N := 46) ?hd (xs := ([(⟨0, 2, (⟨#[]⟩ : ByteArray), 0⟩ : S61)] : List (S61))) (inner := [.int .i64 0, .int .i64 2, .string (⟨#[]⟩ : ByteArray), .int .i64 0]) (ok := fun _ => True) (okp := fun _ => True) ?hr ?hp (fun _ hk => hk) trivial (Below.refl _ _) (Nat.le_refl _) (by simp) ?_; (case hd => rfl); (case hg => rfl); (case hr => first | (go_simp; done) | (go_simp; rfl)); (case hp => exact (Reps.c4 (show Kd.M k61 _ _ _ (⟨0, 2, (⟨#[]⟩ : ByteArray), 0⟩ : S61) [.int .i64 0, .int .i64 2, .string (⟨#[]⟩ : ByteArray), .int .i64 0] from (k61_mkM _ _ _ (⟨0, 2, (⟨#[]⟩ : ByteArray), 0⟩ : S61) )) (Reps.none _ _))); intro v276 w51 ho52 hb hg_ hnew_; clear hg_ hnew_; (first | rw [← Ny275.out] at ho52 | (simp only [Int.reduceToNat] at ho52; rw [← Ny275.out] at ho52)); replace HO254 := Aside0.mk (Kd.N_elder' (by (with_reducible repeat (first | apply Kd.N_alloc | apply Kd.N_drewN | apply Kd.N_drew)); exact HO254.out) (Kd.R_base ho52) hb); replace HO259 := Aside0.mk (Kd.N_elder' (by (with_reducible repeat (first | apply Kd.N_alloc | apply Kd.N_drewN | apply Kd.N_drew)); exact HO259.out) (Kd.R_base ho52) hb); replace HO264 := Aside0.mk (Kd.N_elder' (by (with_reducible repeat (first | apply Kd.N_alloc | apply Kd.N_drewN | apply Kd.N_drew)); exact HO264.out) (Kd.R_base ho52) hb); replace HO269 := cR HO269 hb; replace HO272 := Aside0.mk (Kd.N_elder' (by (with_reducible repeat (first | apply Kd.N_alloc | apply Kd.N_drewN | apply Kd.N_drew)); exact HO272.out) (Kd.R_base ho52) hb); have HO277 := Aside0.mk (Kd.R_lower ho52 (below_size bl)); replace BK251 := cB BK251 hb; replace BK256 := cB BK256 hb; replace HB := Aside0.mk (below_step bl hb); clear hb ho52; obtain ⟨Ao53, co53, eo53⟩ := Kd.R_slice HO277.out; subst eo53) | ((with_reducible refine gate_dst (N := 47) rfl ?_); (try (refine gate_guard (by rfl) ?_; dsimp only)); refine Kd.N_lit (Kd.slice 61 k61) _ 62 ?hg (N' := 47) ?hd (xs := ([y275] : List (List (S61)))) (inner := [.slice Ao53 y275.length co53]) (ok := (fun k_ => some k_ ≠ (.slice Ao25 t252.length co25 : Value).ownBlock ∧ some k_ ≠ (.slice Ao33 y257.length co33 : Value).ownBlock ∧ some k_ ≠ (.slice Ao39 y262.length co39 : Value).ownBlock ∧ some k_ ≠ (.slice Ao47 y267.length co47 : Value).ownBlock ∧ some k_ ≠ (.slice Ao48 y270.length co48 : Value).ownBlock ∧ k_ ≠ gb251 ∧ k_ ≠ gb256)) (okp := (fun k_ => some k_ ≠ (.slice Ao25 t252.length co25 : Value).ownBlock ∧ some k_ ≠ (.slice Ao33 y257.length co33 : Value).ownBlock ∧ some k_ ≠ (.slice Ao39 y262.length co39 : Value).ownBlock ∧ some k_ ≠ (.slice Ao47 y267.length co47 : Value).ownBlock ∧ some k_ ≠ (.slice Ao48 y270.length co48 : Value).ownBlock ∧ k_ ≠ gb251 ∧ k_ ≠ gb256)) ?hr ?hp (fun _ hk => hk) ((show ∀ k_, w51.heap.size ≤ k_ → (fun k_ => some k_ ≠ (.slice Ao25 t252.length co25 : Value).ownBlock ∧ some k_ ≠ (.slice Ao33 y257.length co33 : Value).ownBlock ∧ some k_ ≠ (.slice Ao39 y262.length co39 : Value).ownBlock ∧ some k_ ≠ (.slice Ao47 y267.length co47 : Value).ownBlock ∧ some k_ ≠ (.slice Ao48 y270.length co48 : Value).ownBlock ∧ k_ ≠ gb251 ∧ k_ ≠ gb256) k_ from fun k_ hk => ⟨Kd.fresh' (Kd.N_lt (by (with_reducible repeat (first | apply Kd.N_alloc | apply Kd.N_drewN | apply Kd.N_drew)); exact HO254.out)) k_ hk, Kd.fresh' (Kd.N_lt (by (with_reducible repeat (first | apply Kd.N_alloc | apply Kd.N_drewN | apply Kd.N_drew)); exact HO259.out)) k_ hk, Kd.fresh' (Kd.N_lt (by (with_reducible repeat (first | apply Kd.N_alloc | apply Kd.N_drewN | apply Kd.N_drew)); exact HO264.out)) k_ hk, Kd.fresh' (Kd.R_lt (uR HO269.out)) k_ hk, Kd.fresh' (Kd.N_lt (by (with_reducible repeat (first | apply Kd.N_alloc | apply Kd.N_drewN | apply Kd.N_drew)); exact HO272.out)) k_ hk, Kd.freshB (g := gb251) (o := .cells #[.int .i64 0, .int .i64 0, .int .i64 10, .int .i64 5, .int .i64 0] 23 (0, 0)) (uB BK251.out) k_ hk, Kd.freshB (g := gb256) (o := .cells #[.slice Ao25 t252.length co25] 50 (0, 0)) (uB BK256.out) k_ hk⟩) _ (Nat.le_refl _)) (Below.refl _ _) (Nat.le_refl _) (by simp) ?_; (case hd => rfl); (case hg => rfl); (case hr => first | (go_simp; done) | (go_simp; rfl)); (case hp => exact (Reps.one (show Kd.FK (Kd.slice 61 k61) _ _ y275 [.slice Ao53 y275.length co53] from (Kd.FK_slice_mk (Kd.R_reads' (Kd.R_mono (ok' := (fun k_ => some k_ ≠ (.slice Ao25 t252.length co25 : Value).ownBlock ∧ some k_ ≠ (.slice Ao33 y257.length co33 : Value).ownBlock ∧ some k_ ≠ (.slice Ao39 y262.length co39 : Value).ownBlock ∧ some k_ ≠ (.slice Ao47 y267.length co47 : Value).ownBlock ∧ some k_ ≠ (.slice Ao48 y270.length co48 : Value).ownBlock ∧ k_ ≠ gb251 ∧ k_ ≠ gb256)) (Kd.R_types (Kd.R_types (Kd.R_apart' (Kd.R_apart' (Kd.R_apart' (Kd.R_apart' (Kd.R_apart' (HO277.out) (Kd.N_typed HO254.out) (by decide)) (Kd.N_typed HO259.out) (by decide)) (Kd.N_typed HO264.out) (by decide)) (Kd.R_typed HO269.out) (by decide)) (Kd.N_typed HO272.out) (by decide)) BK251.out (by decide)) BK256.out (by decide)) (fun k_ hk => ⟨hk.1.1.1.1.1.1.2, ⟨hk.1.1.1.1.1.2, ⟨hk.1.1.1.1.2, ⟨hk.1.1.1.2, ⟨hk.1.1.2, ⟨hk.1.2, hk.2⟩⟩⟩⟩⟩⟩))).2.1 (Kd.R_F (Kd.R_mono (ok' := (fun k_ => some k_ ≠ (.slice Ao25 t252.length co25 : Value).ownBlock ∧ some k_ ≠ (.slice Ao33 y257.length co33 : Value).ownBlock ∧ some k_ ≠ (.slice Ao39 y262.length co39 : Value).ownBlock ∧ some k_ ≠ (.slice Ao47 y267.length co47 : Value).ownBlock ∧ some k_ ≠ (.slice Ao48 y270.length co48 : Value).ownBlock ∧ k_ ≠ gb251 ∧ k_ ≠ gb256)) (Kd.R_types (Kd.R_types (Kd.R_apart' (Kd.R_apart' (Kd.R_apart' (Kd.R_apart' (Kd.R_apart' (HO277.out) (Kd.N_typed HO254.out) (by decide)) (Kd.N_typed HO259.out) (by decide)) (Kd.N_typed HO264.out) (by decide)) (Kd.R_typed HO269.out) (by decide)) (Kd.N_typed HO272.out) (by decide)) BK251.out (by decide)) BK256.out (by decide)) (fun k_ hk => ⟨hk.1.1.1.1.1.1.2, ⟨hk.1.1.1.1.1.2, ⟨hk.1.1.1.1.2, ⟨hk.1.1.1.2, ⟨hk.1.1.2, ⟨hk.1.2, hk.2⟩⟩⟩⟩⟩⟩))))) (Reps.none _ _))); intro v279 w54 ho55 hb hg_ hnew_; clear hg_ hnew_; (first | rw [← Ny278.out] at ho55 | (simp only [Int.reduceToNat] at ho55; rw [← Ny278.out] at ho55)); replace HO254 := Aside0.mk (Kd.N_elder' (by (with_reducible repeat (first | apply Kd.N_alloc | apply Kd.N_drewN | apply Kd.N_drew)); exact HO254.out) (Kd.N_base ho55) hb); replace HO259 := Aside0.mk (Kd.N_elder' (by (with_reducible repeat (first | apply Kd.N_alloc | apply Kd.N_drewN | apply Kd.N_drew)); exact HO259.out) (Kd.N_base ho55) hb); replace HO264 := Aside0.mk (Kd.N_elder' (by (with_reducible repeat (first | apply Kd.N_alloc | apply Kd.N_drewN | apply Kd.N_drew)); exact HO264.out) (Kd.N_base ho55) hb); replace HO269 := cR HO269 hb; replace HO272 := Aside0.mk (Kd.N_elder' (by (with_reducible repeat (first | apply Kd.N_alloc | apply Kd.N_drewN | apply Kd.N_drew)); exact HO272.out) (Kd.N_base ho55) hb); replace HO277 := cR HO277 hb; have HO280 := Aside0.mk (Kd.N_lower ho55 (below_size bl)); replace BK251 := cB BK251 hb; replace BK256 := cB BK256 hb; replace HB := Aside0.mk (below_step bl hb); clear hb ho55; obtain ⟨hcz56_0, hfz56_0⟩ := z1 BK256) | ((with_reducible refine gate_dst (N := 49) rfl ?_); (try (refine gate_guard (by rfl) ?_; dsimp only)); refine Kd.N_lit k50 _ 50 ?hg (N' := 49) ?hd (xs := ([(⟨t252⟩ : S50)] : List (S50))) (inner := [.slice Ao25 t252.length co25]) (ok := (fun k_ => some k_ ≠ (.slice Ao33 y257.length co33 : Value).ownBlock ∧ some k_ ≠ (.slice Ao39 y262.length co39 : Value).ownBlock ∧ some k_ ≠ (.slice Ao47 y267.length co47 : Value).ownBlock ∧ some k_ ≠ (.slice Ao48 y270.length co48 : Value).ownBlock ∧ some k_ ≠ (.slice Ao53 y275.length co53 : Value).ownBlock ∧ some k_ ≠ (v279 : Value).ownBlock ∧ k_ ≠ gb251 ∧ k_ ≠ gb256)) (okp := (fun k_ => some k_ ≠ (.slice Ao33 y257.length co33 : Value).ownBlock ∧ some k_ ≠ (.slice Ao39 y262.length co39 : Value).ownBlock ∧ some k_ ≠ (.slice Ao47 y267.length co47 : Value).ownBlock ∧ some k_ ≠ (.slice Ao48 y270.length co48 : Value).ownBlock ∧ some k_ ≠ (.slice Ao53 y275.length co53 : Value).ownBlock ∧ some k_ ≠ (v279 : Value).ownBlock ∧ k_ ≠ gb251 ∧ k_ ≠ gb256)) ?hr ?hp (fun _ hk => hk) ((show ∀ k_, w54.heap.size ≤ k_ → (fun k_ => some k_ ≠ (.slice Ao33 y257.length co33 : Value).ownBlock ∧ some k_ ≠ (.slice Ao39 y262.length co39 : Value).ownBlock ∧ some k_ ≠ (.slice Ao47 y267.length co47 : Value).ownBlock ∧ some k_ ≠ (.slice Ao48 y270.length co48 : Value).ownBlock ∧ some k_ ≠ (.slice Ao53 y275.length co53 : Value).ownBlock ∧ some k_ ≠ (v279 : Value).ownBlock ∧ k_ ≠ gb251 ∧ k_ ≠ gb256) k_ from fun k_ hk => ⟨Kd.fresh' (Kd.N_lt (by (with_reducible repeat (first | apply Kd.N_alloc | apply Kd.N_drewN | apply Kd.N_drew)); exact HO259.out)) k_ hk, Kd.fresh' (Kd.N_lt (by (with_reducible repeat (first | apply Kd.N_alloc | apply Kd.N_drewN | apply Kd.N_drew)); exact HO264.out)) k_ hk, Kd.fresh' (Kd.R_lt (uR HO269.out)) k_ hk, Kd.fresh' (Kd.N_lt (by (with_reducible repeat (first | apply Kd.N_alloc | apply Kd.N_drewN | apply Kd.N_drew)); exact HO272.out)) k_ hk, Kd.fresh' (Kd.R_lt (uR HO277.out)) k_ hk, Kd.fresh' (Kd.N_lt (by (with_reducible repeat (first | apply Kd.N_alloc | apply Kd.N_drewN | apply Kd.N_drew)); exact HO280.out)) k_ hk, Kd.freshB (g := gb251) (o := .cells #[.int .i64 0, .int .i64 0, .int .i64 10, .int .i64 5, .int .i64 0] 23 (0, 0)) (uB BK251.out) k_ hk, Kd.freshB (g := gb256) (o := .cells #[.slice Ao25 t252.length co25] 50 (0, 0)) (uB BK256.out) k_ hk⟩) _ (Nat.le_refl _)) (Below.refl _ _) (Nat.le_refl _) (by simp) ?_; (case hd => rfl); (case hg => rfl); (case hr => first | (go_simp; done) | (go_simp; rfl)); (case hp => exact (Reps.one (show Kd.FK k50 _ _ (⟨t252⟩ : S50) [.slice Ao25 t252.length co25] from (k50_mkF _ _ (⟨t252⟩ : S50) (Kd.N_reads' (Kd.N_mono (ok' := (fun k_ => some k_ ≠ (.slice Ao33 y257.length co33 : Value).ownBlock ∧ some k_ ≠ (.slice Ao39 y262.length co39 : Value).ownBlock ∧ some k_ ≠ (.slice Ao47 y267.length co47 : Value).ownBlock ∧ some k_ ≠ (.slice Ao48 y270.length co48 : Value).ownBlock ∧ some k_ ≠ (.slice Ao53 y275.length co53 : Value).ownBlock ∧ some k_ ≠ (v279 : Value).ownBlock ∧ k_ ≠ gb251 ∧ k_ ≠ gb256)) (HO254.out) (fun k_ hk => ⟨hk.1.1.1.1.1.2, ⟨hk.1.1.1.1.2, ⟨hk.1.1.1.2, ⟨hk.1.1.2, ⟨hk.1.2, ⟨hk.2, ⟨hk.1.1.1.1.1.1.1, hk.1.1.1.1.1.1.2⟩⟩⟩⟩⟩⟩⟩))).2.1 (Kd.N_F (Kd.N_mono (ok' := (fun k_ => some k_ ≠ (.slice Ao33 y257.length co33 : Value).ownBlock ∧ some k_ ≠ (.slice Ao39 y262.length co39 : Value).ownBlock ∧ some k_ ≠ (.slice Ao47 y267.length co47 : Value).ownBlock ∧ some k_ ≠ (.slice Ao48 y270.length co48 : Value).ownBlock ∧ some k_ ≠ (.slice Ao53 y275.length co53 : Value).ownBlock ∧ some k_ ≠ (v279 : Value).ownBlock ∧ k_ ≠ gb251 ∧ k_ ≠ gb256)) (HO254.out) (fun k_ hk => ⟨hk.1.1.1.1.1.2, ⟨hk.1.1.1.1.2, ⟨hk.1.1.1.2, ⟨hk.1.1.2, ⟨hk.1.2, ⟨hk.2, ⟨hk.1.1.1.1.1.1.1, hk.1.1.1.1.1.1.2⟩⟩⟩⟩⟩⟩⟩))))) (Reps.none _ _))); intro v282 w57 ho58 hb hg_ hnew_; clear hg_ hnew_; (first | rw [← Ny281.out] at ho58 | (simp only [Int.reduceToNat] at ho58; rw [← Ny281.out] at ho58)); replace HO254 := Aside0.mk (Kd.N_elder' (by (with_reducible repeat (first | apply Kd.N_alloc | apply Kd.N_drewN | apply Kd.N_drew)); exact HO254.out) (Kd.N_base ho58) hb); replace HO259 := Aside0.mk (Kd.N_elder' (by (with_reducible repeat (first | apply Kd.N_alloc | apply Kd.N_drewN | apply Kd.N_drew)); exact HO259.out) (Kd.N_base ho58) hb); replace HO264 := Aside0.mk (Kd.N_elder' (by (with_reducible repeat (first | apply Kd.N_alloc | apply Kd.N_drewN | apply Kd.N_drew)); exact HO264.out) (Kd.N_base ho58) hb); replace HO269 := cR HO269 hb; replace HO272 := Aside0.mk (Kd.N_elder' (by (with_reducible repeat (first | apply Kd.N_alloc | apply Kd.N_drewN | apply Kd.N_drew)); exact HO272.out) (Kd.N_base ho58) hb); replace HO277 := cR HO277 hb; replace HO280 := Aside0.mk (Kd.N_elder' (by (with_reducible repeat (first | apply Kd.N_alloc | apply Kd.N_drewN | apply Kd.N_drew)); exact HO280.out) (Kd.N_base ho58) hb); have HO283 := Aside0.mk (Kd.N_lower ho58 (below_size bl)); replace BK251 := cB BK251 hb; replace BK256 := cB BK256 hb; replace HB := Aside0.mk (below_step bl hb); clear hb ho58; obtain ⟨Ao59, co59, eo59⟩ := Kd.N_slice HO280.out; subst eo59; obtain ⟨Ao60, co60, eo60⟩ := Kd.N_slice HO283.out; subst eo60) | (refine gL (some 50) rfl Try.func9 #[.agg #[.int .i64 0, .int .i64 0, .int .i64 10, .int .i64 5, .int .i64 0], .int .i64 35, .slice none 0 0, .slice Ao59 y278.length co59, .slice Ao60 y281.length co60] ?_; (refine (emit_Next.calls k 0 0 10 5 0 35 _ _ ([] : List (S46)) _ _ y278 _ _ y281 t284 false _ ?side1 ?side2 ?side3 ?side4 ?side5 ?side6 A5.out).mono ?_); (case side1 => exact Kd.C_nil _ _); (case side2 => exact Nat.le_refl _); (case side3 => exact uC <| (Kd.N_reads' HO280.out).2.2); (case side4 => exact (Kd.N_reads' HO280.out).2.1); (case side5 => exact uC <| (Kd.N_reads' HO283.out).2.2); (case side6 => exact (Kd.N_reads' HO283.out).2.1); rintro e w61 ⟨rfl, hb⟩; refine ⟨_, rfl, ?_⟩; replace HO254 := Aside0.mk (Kd.N_below (by (with_reducible repeat (first | apply Kd.N_alloc | apply Kd.N_drewN | apply Kd.N_drew)); exact HO254.out) hb); replace HO259 := Aside0.mk (Kd.N_below (by (with_reducible repeat (first | apply Kd.N_alloc | apply Kd.N_drewN | apply Kd.N_drew)); exact HO259.out) hb); replace HO264 := Aside0.mk (Kd.N_below (by (with_reducible repeat (first | apply Kd.N_alloc | apply Kd.N_drewN | apply Kd.N_drew)); exact HO264.out) hb); replace HO269 := cR HO269 hb; replace HO272 := Aside0.mk (Kd.N_below (by (with_reducible repeat (first | apply Kd.N_alloc | apply Kd.N_drewN | apply Kd.N_drew)); exact HO272.out) hb); replace HO277 := cR HO277 hb; replace HO280 := Aside0.mk (Kd.N_below (by (with_reducible repeat (first | apply Kd.N_alloc | apply Kd.N_drewN | apply Kd.N_drew)); exact HO280.out) hb); replace HO283 := Aside0.mk (Kd.N_below (by (with_reducible repeat (first | apply Kd.N_alloc | apply Kd.N_drewN | apply Kd.N_drew)); exact HO283.out) hb); replace BK251 := cB BK251 hb; replace BK256 := cB BK256 hb; replace HB := Aside0.mk (below_step bl hb); (try clear hb); obtain ⟨hcz62_0, hfz62_0⟩ := z1 BK256) | ((with_reducible refine gate_dst (N := 55) rfl ?_); (try (refine gate_guard (by rfl) ?_; dsimp only)); refine Kd.N_lit k50 _ 50 ?hg (N' := 55) ?hd (xs := ([(⟨([] : List (S70))⟩ : S50), (⟨t252⟩ : S50)] : List (S50))) (inner := [.slice none 0 0, .slice Ao25 t252.length co25]) (ok := (fun k_ => some k_ ≠ (.slice Ao33 y257.length co33 : Value).ownBlock ∧ some k_ ≠ (.slice Ao39 y262.length co39 : Value).ownBlock ∧ some k_ ≠ (.slice Ao47 y267.length co47 : Value).ownBlock ∧ some k_ ≠ (.slice Ao48 y270.length co48 : Value).ownBlock ∧ some k_ ≠ (.slice Ao53 y275.length co53 : Value).ownBlock ∧ some k_ ≠ (.slice Ao59 y278.length co59 : Value).ownBlock ∧ some k_ ≠ (.slice Ao60 y281.length co60 : Value).ownBlock ∧ k_ ≠ gb251 ∧ k_ ≠ gb256)) (okp := (fun k_ => some k_ ≠ (.slice Ao33 y257.length co33 : Value).ownBlock ∧ some k_ ≠ (.slice Ao39 y262.length co39 : Value).ownBlock ∧ some k_ ≠ (.slice Ao47 y267.length co47 : Value).ownBlock ∧ some k_ ≠ (.slice Ao48 y270.length co48 : Value).ownBlock ∧ some k_ ≠ (.slice Ao53 y275.length co53 : Value).ownBlock ∧ some k_ ≠ (.slice Ao59 y278.length co59 : Value).ownBlock ∧ some k_ ≠ (.slice Ao60 y281.length co60 : Value).ownBlock ∧ k_ ≠ gb251 ∧ k_ ≠ gb256)) ?hr ?hp (fun _ hk => hk) ((show ∀ k_, w61.heap.size ≤ k_ → (fun k_ => some k_ ≠ (.slice Ao33 y257.length co33 : Value).ownBlock ∧ some k_ ≠ (.slice Ao39 y262.length co39 : Value).ownBlock ∧ some k_ ≠ (.slice Ao47 y267.length co47 : Value).ownBlock ∧ some k_ ≠ (.slice Ao48 y270.length co48 : Value).ownBlock ∧ some k_ ≠ (.slice Ao53 y275.length co53 : Value).ownBlock ∧ some k_ ≠ (.slice Ao59 y278.length co59 : Value).ownBlock ∧ some k_ ≠ (.slice Ao60 y281.length co60 : Value).ownBlock ∧ k_ ≠ gb251 ∧ k_ ≠ gb256) k_ from fun k_ hk => ⟨Kd.fresh' (Kd.N_lt (by (with_reducible repeat (first | apply Kd.N_alloc | apply Kd.N_drewN | apply Kd.N_drew)); exact HO259.out)) k_ hk, Kd.fresh' (Kd.N_lt (by (with_reducible repeat (first | apply Kd.N_alloc | apply Kd.N_drewN | apply Kd.N_drew)); exact HO264.out)) k_ hk, Kd.fresh' (Kd.R_lt (uR HO269.out)) k_ hk, Kd.fresh' (Kd.N_lt (by (with_reducible repeat (first | apply Kd.N_alloc | apply Kd.N_drewN | apply Kd.N_drew)); exact HO272.out)) k_ hk, Kd.fresh' (Kd.R_lt (uR HO277.out)) k_ hk, Kd.fresh' (Kd.N_lt (by (with_reducible repeat (first | apply Kd.N_alloc | apply Kd.N_drewN | apply Kd.N_drew)); exact HO280.out)) k_ hk, Kd.fresh' (Kd.N_lt (by (with_reducible repeat (first | apply Kd.N_alloc | apply Kd.N_drewN | apply Kd.N_drew)); exact HO283.out)) k_ hk, Kd.freshB (g := gb251) (o := .cells #[.int .i64 0, .int .i64 0, .int .i64 10, .int .i64 5, .int .i64 0] 23 (0, 0)) (uB BK251.out) k_ hk, Kd.freshB (g := gb256) (o := .cells #[.slice Ao25 t252.length co25] 50 (0, 0)) (uB BK256.out) k_ hk⟩) _ (Nat.le_refl _)) (Below.refl _ _) (Nat.le_refl _) (by simp) ?_; (case hd => rfl); (case hg => rfl); (case hr => first | (go_simp; done) | (go_simp; rfl)); (case hp => exact (Reps.one (show Kd.FK k50 _ _ (⟨([] : List (S70))⟩ : S50) [.slice none 0 0] from (k50_mkF _ _ (⟨([] : List (S70))⟩ : S50) (Nat.le_refl _) (Kd.F_nil _ _ _))) (Reps.one (show Kd.FK k50 _ _ (⟨t252⟩ : S50) [.slice Ao25 t252.length co25] from (k50_mkF _ _ (⟨t252⟩ : S50) (Kd.N_reads' (Kd.N_mono (ok' := (fun k_ => some k_ ≠ (.slice Ao33 y257.length co33 : Value).ownBlock ∧ some k_ ≠ (.slice Ao39 y262.length co39 : Value).ownBlock ∧ some k_ ≠ (.slice Ao47 y267.length co47 : Value).ownBlock ∧ some k_ ≠ (.slice Ao48 y270.length co48 : Value).ownBlock ∧ some k_ ≠ (.slice Ao53 y275.length co53 : Value).ownBlock ∧ some k_ ≠ (.slice Ao59 y278.length co59 : Value).ownBlock ∧ some k_ ≠ (.slice Ao60 y281.length co60 : Value).ownBlock ∧ k_ ≠ gb251 ∧ k_ ≠ gb256)) (HO254.out) (fun k_ hk => ⟨hk.1.1.1.1.1.1.2, ⟨hk.1.1.1.1.1.2, ⟨hk.1.1.1.1.2, ⟨hk.1.1.1.2, ⟨hk.1.1.2, ⟨hk.1.2, ⟨hk.2, ⟨hk.1.1.1.1.1.1.1.1, hk.1.1.1.1.1.1.1.2⟩⟩⟩⟩⟩⟩⟩⟩))).2.1 (Kd.N_F (Kd.N_mono (ok' := (fun k_ => some k_ ≠ (.slice Ao33 y257.length co33 : Value).ownBlock ∧ some k_ ≠ (.slice Ao39 y262.length co39 : Value).ownBlock ∧ some k_ ≠ (.slice Ao47 y267.length co47 : Value).ownBlock ∧ some k_ ≠ (.slice Ao48 y270.length co48 : Value).ownBlock ∧ some k_ ≠ (.slice Ao53 y275.length co53 : Value).ownBlock ∧ some k_ ≠ (.slice Ao59 y278.length co59 : Value).ownBlock ∧ some k_ ≠ (.slice Ao60 y281.length co60 : Value).ownBlock ∧ k_ ≠ gb251 ∧ k_ ≠ gb256)) (HO254.out) (fun k_ hk => ⟨hk.1.1.1.1.1.1.2, ⟨hk.1.1.1.1.1.2, ⟨hk.1.1.1.1.2, ⟨hk.1.1.1.2, ⟨hk.1.1.2, ⟨hk.1.2, ⟨hk.2, ⟨hk.1.1.1.1.1.1.1.1, hk.1.1.1.1.1.1.1.2⟩⟩⟩⟩⟩⟩⟩⟩))))) (Reps.none _ _)))); intro v287 w63 ho64 hb hg_ hnew_; clear hg_ hnew_; (first | rw [← Ny286.out] at ho64 | (simp only [Int.reduceToNat] at ho64; rw [← Ny286.out] at ho64)); replace HO254 := Aside0.mk (Kd.N_elder' (by (with_reducible repeat (first | apply Kd.N_alloc | apply Kd.N_drewN | apply Kd.N_drew)); exact HO254.out) (Kd.N_base ho64) hb); replace HO259 := Aside0.mk (Kd.N_elder' (by (with_reducible repeat (first | apply Kd.N_alloc | apply Kd.N_drewN | apply Kd.N_drew)); exact HO259.out) (Kd.N_base ho64) hb); replace HO264 := Aside0.mk (Kd.N_elder' (by (with_reducible repeat (first | apply Kd.N_alloc | apply Kd.N_drewN | apply Kd.N_drew)); exact HO264.out) (Kd.N_base ho64) hb); replace HO269 := cR HO269 hb; replace HO272 := Aside0.mk (Kd.N_elder' (by (with_reducible repeat (first | apply Kd.N_alloc | apply Kd.N_drewN | apply Kd.N_drew)); exact HO272.out) (Kd.N_base ho64) hb); replace HO277 := cR HO277 hb; replace HO280 := Aside0.mk (Kd.N_elder' (by (with_reducible repeat (first | apply Kd.N_alloc | apply Kd.N_drewN | apply Kd.N_drew)); exact HO280.out) (Kd.N_base ho64) hb); replace HO283 := Aside0.mk (Kd.N_elder' (by (with_reducible repeat (first | apply Kd.N_alloc | apply Kd.N_drewN | apply Kd.N_drew)); exact HO283.out) (Kd.N_base ho64) hb); have HO288 := Aside0.mk (Kd.N_lower ho64 (below_size bl)); replace BK251 := cB BK251 hb; replace BK256 := cB BK256 hb; replace HB := Aside0.mk (below_step bl hb); clear hb ho64; obtain ⟨Ao65, co65, eo65⟩ := Kd.N_slice HO288.out; subst eo65) | (refine gL (some 56) rfl Try.func12 #[.int .i64 2, .int .i64 9, .slice Ao65 y286.length co65] ?_; (with_reducible refine (emit_Take.calls k 2 9 _ _ y286 t289 t290 t291 _ ?side1 ?side2 A6.out).mono ?_); (case side1 => exact uC <| (Kd.N_reads' HO288.out).2.2); (case side2 => exact (Kd.N_reads' HO288.out).2.1); rintro e w66 ⟨v292, rfl, ho0, hb⟩; refine ⟨_, rfl, ?_⟩; replace HO254 := Aside0.mk (Kd.N_elder' (by (with_reducible repeat (first | apply Kd.N_alloc | apply Kd.N_drewN | apply Kd.N_drew)); exact HO254.out) (Kd.R_base ho0) hb); replace HO259 := Aside0.mk (Kd.N_elder' (by (with_reducible repeat (first | apply Kd.N_alloc | apply Kd.N_drewN | apply Kd.N_drew)); exact HO259.out) (Kd.R_base ho0) hb); replace HO264 := Aside0.mk (Kd.N_elder' (by (with_reducible repeat (first | apply Kd.N_alloc | apply Kd.N_drewN | apply Kd.N_drew)); exact HO264.out) (Kd.R_base ho0) hb); replace HO269 := cR HO269 hb; replace HO272 := Aside0.mk (Kd.N_elder' (by (with_reducible repeat (first | apply Kd.N_alloc | apply Kd.N_drewN | apply Kd.N_drew)); exact HO272.out) (Kd.R_base ho0) hb); replace HO277 := cR HO277 hb; replace HO280 := Aside0.mk (Kd.N_elder' (by (with_reducible repeat (first | apply Kd.N_alloc | apply Kd.N_drewN | apply Kd.N_drew)); exact HO280.out) (Kd.R_base ho0) hb); replace HO283 := Aside0.mk (Kd.N_elder' (by (with_reducible repeat (first | apply Kd.N_alloc | apply Kd.N_drewN | apply Kd.N_drew)); exact HO283.out) (Kd.R_base ho0) hb); replace HO288 := Aside0.mk (Kd.N_elder' (by (with_reducible repeat (first | apply Kd.N_alloc | apply Kd.N_drewN | apply Kd.N_drew)); exact HO288.out) (Kd.R_base ho0) hb); have HO293 := Aside0.mk (Kd.R_lower ho0 (below_size bl)); replace BK251 := cB BK251 hb; replace BK256 := cB BK256 hb; replace HB := Aside0.mk (below_step bl hb); (try clear hb); (try clear ho0)) | ((with_reducible refine gate_dst (N := 12) rfl ?_); (try (refine gate_guard (by rfl) ?_; dsimp only)); refine bx (N := 12) #[.int .i64 0, .int .i64 0, .slice none 0 0] 38 ?_; intro gb294 hg w67 hbox hb; replace HO254 := Aside0.mk (Kd.N_below (Kd.N_elderB (by (with_reducible repeat (first | apply Kd.N_alloc | apply Kd.N_drewN | apply Kd.N_drew)); exact HO254.out) gb294 (Nat.le_of_eq hg.symm)) hb); replace HO259 := Aside0.mk (Kd.N_below (Kd.N_elderB (by (with_reducible repeat (first | apply Kd.N_alloc | apply Kd.N_drewN | apply Kd.N_drew)); exact HO259.out) gb294 (Nat.le_of_eq hg.symm)) hb); replace HO264 := Aside0.mk (Kd.N_below (Kd.N_elderB (by (with_reducible repeat (first | apply Kd.N_alloc | apply Kd.N_drewN | apply Kd.N_drew)); exact HO264.out) gb294 (Nat.le_of_eq hg.symm)) hb); replace HO269 := cR HO269 hb; replace HO272 := Aside0.mk (Kd.N_below (Kd.N_elderB (by (with_reducible repeat (first | apply Kd.N_alloc | apply Kd.N_drewN | apply Kd.N_drew)); exact HO272.out) gb294 (Nat.le_of_eq hg.symm)) hb); replace HO277 := cR HO277 hb; replace HO280 := Aside0.mk (Kd.N_below (Kd.N_elderB (by (with_reducible repeat (first | apply Kd.N_alloc | apply Kd.N_drewN | apply Kd.N_drew)); exact HO280.out) gb294 (Nat.le_of_eq hg.symm)) hb); replace HO283 := Aside0.mk (Kd.N_below (Kd.N_elderB (by (with_reducible repeat (first | apply Kd.N_alloc | apply Kd.N_drewN | apply Kd.N_drew)); exact HO283.out) gb294 (Nat.le_of_eq hg.symm)) hb); replace HO288 := Aside0.mk (Kd.N_below (Kd.N_elderB (by (with_reducible repeat (first | apply Kd.N_alloc | apply Kd.N_drewN | apply Kd.N_drew)); exact HO288.out) gb294 (Nat.le_of_eq hg.symm)) hb); replace HO293 := cR HO293 hb; have BK294 := Aside0.mk (hbox); have GW294 := gw hg bl; have GE294 := GW294; replace HB := Aside0.mk (below_step bl hb); have NB251_294 := Aside0.mk ((by rw [hg]; exact Nat.ne_of_lt (blk_lt (g := gb251) (o := .cells #[.int .i64 0, .int .i64 0, .int .i64 10, .int .i64 5, .int .i64 0] 23 (0, 0)) (uB BK251.out)) : gb251 ≠ gb294)); have NB294_251 := Aside0.mk ((by rw [hg]; exact Nat.ne_of_gt (blk_lt (g := gb251) (o := .cells #[.int .i64 0, .int .i64 0, .int .i64 10, .int .i64 5, .int .i64 0] 23 (0, 0)) (uB BK251.out)) : gb294 ≠ gb251)); replace BK251 := cB BK251 hb; have NB256_294 := Aside0.mk ((by rw [hg]; exact Nat.ne_of_lt (blk_lt (g := gb256) (o := .cells #[.slice Ao25 t252.length co25] 50 (0, 0)) (uB BK256.out)) : gb256 ≠ gb294)); have NB294_256 := Aside0.mk ((by rw [hg]; exact Nat.ne_of_gt (blk_lt (g := gb256) (o := .cells #[.slice Ao25 t252.length co25] 50 (0, 0)) (uB BK256.out)) : gb294 ≠ gb256)); replace BK256 := cB BK256 hb; clear hb hbox hg; have hnb68 := NB294_251.out; have hnc68 := NB251_294.out; have hnb69 := NB294_256.out; have hnc69 := NB256_294.out; obtain ⟨hcz70_0, hcz70_1, hcz70_2, hfz70_0, hfz70_1, hfz70_2⟩ := z3 BK294; obtain ⟨Ao71, co71, eo71⟩ := Kd.R_slice HO293.out; subst eo71))
          have n0_ : Aside0 (Kd.N k70 70 (((w67.setCell ⟨gb294, 0, none⟩ (.int .i64 t289)).setCell ⟨gb294, 1, none⟩ (.int .i64 t290)).setCell ⟨gb294, 2, none⟩ (.slice Ao71 t291.length co71)) w.heap.size (fun k_ => some k_ ≠ (.slice Ao33 y257.length co33 : Value).ownBlock ∧ some k_ ≠ (.slice Ao39 y262.length co39 : Value).ownBlock ∧ some k_ ≠ (.slice Ao47 y267.length co47 : Value).ownBlock ∧ some k_ ≠ (.slice Ao48 y270.length co48 : Value).ownBlock ∧ some k_ ≠ (.slice Ao53 y275.length co53 : Value).ownBlock ∧ some k_ ≠ (.slice Ao59 y278.length co59 : Value).ownBlock ∧ some k_ ≠ (.slice Ao60 y281.length co60 : Value).ownBlock ∧ some k_ ≠ (.slice Ao65 y286.length co65 : Value).ownBlock ∧ some k_ ≠ (.slice Ao71 t291.length co71 : Value).ownBlock ∧ k_ ≠ gb251 ∧ k_ ≠ gb256 ∧ k_ ≠ gb294) (.slice Ao25 t252.length co25) t252) := ⟨by (with_reducible repeat (first | apply Kd.N_alloc | apply Kd.N_drewN | apply Kd.N_drew)); exact Kd.N_mono (Kd.N_far (p := ⟨gb294, 2, none⟩) (Kd.N_far (p := ⟨gb294, 1, none⟩) (Kd.N_far (p := ⟨gb294, 0, none⟩) (Kd.N_mono HO254.out (fun k_ hk => (⟨hk, hk.2⟩ : _ ∧ k_ ≠ gb294))) (fun _ hk => hk.2) (.int .i64 t289)) (fun _ hk => hk.2) (.int .i64 t290)) (fun _ hk => hk.2) (.slice Ao71 t291.length co71)) (fun _ hk => ⟨hk.1.1.1.1.1.1.1.1.1.1.2, ⟨hk.1.1.1.1.1.1.1.1.1.2, ⟨hk.1.1.1.1.1.1.1.1.2, ⟨hk.1.1.1.1.1.1.1.2, ⟨hk.1.1.1.1.1.1.2, ⟨hk.1.1.1.1.1.2, ⟨hk.1.1.1.1.2, ⟨hk.1.1.1.2, ⟨hk.1.1.2, ⟨hk.1.1.1.1.1.1.1.1.1.1.1.1, ⟨hk.1.1.1.1.1.1.1.1.1.1.1.2, hk.1.2⟩⟩⟩⟩⟩⟩⟩⟩⟩⟩⟩)⟩
          have n1_ : Aside0 (Kd.N k50 50 (((w67.setCell ⟨gb294, 0, none⟩ (.int .i64 t289)).setCell ⟨gb294, 1, none⟩ (.int .i64 t290)).setCell ⟨gb294, 2, none⟩ (.slice Ao71 t291.length co71)) w.heap.size (fun k_ => some k_ ≠ (.slice Ao39 y262.length co39 : Value).ownBlock ∧ some k_ ≠ (.slice Ao47 y267.length co47 : Value).ownBlock ∧ some k_ ≠ (.slice Ao48 y270.length co48 : Value).ownBlock ∧ some k_ ≠ (.slice Ao53 y275.length co53 : Value).ownBlock ∧ some k_ ≠ (.slice Ao59 y278.length co59 : Value).ownBlock ∧ some k_ ≠ (.slice Ao60 y281.length co60 : Value).ownBlock ∧ some k_ ≠ (.slice Ao65 y286.length co65 : Value).ownBlock ∧ some k_ ≠ (.slice Ao71 t291.length co71 : Value).ownBlock ∧ k_ ≠ gb251 ∧ k_ ≠ gb256 ∧ k_ ≠ gb294) (.slice Ao33 y257.length co33) y257) := ⟨by (with_reducible repeat (first | apply Kd.N_alloc | apply Kd.N_drewN | apply Kd.N_drew)); exact Kd.N_mono (Kd.N_far (p := ⟨gb294, 2, none⟩) (Kd.N_far (p := ⟨gb294, 1, none⟩) (Kd.N_far (p := ⟨gb294, 0, none⟩) (Kd.N_mono HO259.out (fun k_ hk => (⟨hk, hk.2⟩ : _ ∧ k_ ≠ gb294))) (fun _ hk => hk.2) (.int .i64 t289)) (fun _ hk => hk.2) (.int .i64 t290)) (fun _ hk => hk.2) (.slice Ao71 t291.length co71)) (fun _ hk => ⟨hk.1.1.1.1.1.1.1.1.1.2, ⟨hk.1.1.1.1.1.1.1.1.2, ⟨hk.1.1.1.1.1.1.1.2, ⟨hk.1.1.1.1.1.1.2, ⟨hk.1.1.1.1.1.2, ⟨hk.1.1.1.1.2, ⟨hk.1.1.1.2, ⟨hk.1.1.2, ⟨hk.1.1.1.1.1.1.1.1.1.1.1, ⟨hk.1.1.1.1.1.1.1.1.1.1.2, hk.1.2⟩⟩⟩⟩⟩⟩⟩⟩⟩⟩)⟩
          have n2_ : Aside0 (Kd.N k50 50 (((w67.setCell ⟨gb294, 0, none⟩ (.int .i64 t289)).setCell ⟨gb294, 1, none⟩ (.int .i64 t290)).setCell ⟨gb294, 2, none⟩ (.slice Ao71 t291.length co71)) w.heap.size (fun k_ => some k_ ≠ (.slice Ao33 y257.length co33 : Value).ownBlock ∧ some k_ ≠ (.slice Ao47 y267.length co47 : Value).ownBlock ∧ some k_ ≠ (.slice Ao48 y270.length co48 : Value).ownBlock ∧ some k_ ≠ (.slice Ao53 y275.length co53 : Value).ownBlock ∧ some k_ ≠ (.slice Ao59 y278.length co59 : Value).ownBlock ∧ some k_ ≠ (.slice Ao60 y281.length co60 : Value).ownBlock ∧ some k_ ≠ (.slice Ao65 y286.length co65 : Value).ownBlock ∧ some k_ ≠ (.slice Ao71 t291.length co71 : Value).ownBlock ∧ k_ ≠ gb251 ∧ k_ ≠ gb256 ∧ k_ ≠ gb294) (.slice Ao39 y262.length co39) y262) := ⟨by (with_reducible repeat (first | apply Kd.N_alloc | apply Kd.N_drewN | apply Kd.N_drew)); exact Kd.N_mono (Kd.N_far (p := ⟨gb294, 2, none⟩) (Kd.N_far (p := ⟨gb294, 1, none⟩) (Kd.N_far (p := ⟨gb294, 0, none⟩) (Kd.N_mono HO264.out (fun k_ hk => (⟨hk, hk.2⟩ : _ ∧ k_ ≠ gb294))) (fun _ hk => hk.2) (.int .i64 t289)) (fun _ hk => hk.2) (.int .i64 t290)) (fun _ hk => hk.2) (.slice Ao71 t291.length co71)) (fun _ hk => ⟨hk.1.1.1.1.1.1.1.1.1.1, ⟨hk.1.1.1.1.1.1.1.1.2, ⟨hk.1.1.1.1.1.1.1.2, ⟨hk.1.1.1.1.1.1.2, ⟨hk.1.1.1.1.1.2, ⟨hk.1.1.1.1.2, ⟨hk.1.1.1.2, ⟨hk.1.1.2, ⟨hk.1.1.1.1.1.1.1.1.1.2.1, ⟨hk.1.1.1.1.1.1.1.1.1.2.2, hk.1.2⟩⟩⟩⟩⟩⟩⟩⟩⟩⟩)⟩
          have n3_ : Aside0 (Kd.R k46 46 (((w67.setCell ⟨gb294, 0, none⟩ (.int .i64 t289)).setCell ⟨gb294, 1, none⟩ (.int .i64 t290)).setCell ⟨gb294, 2, none⟩ (.slice Ao71 t291.length co71)) w.heap.size (fun _ => True) (.slice Ao47 y267.length co47) y267) := ⟨by exact uR <| Kd.R_mono (Kd.R_far (p := ⟨gb294, 2, none⟩) (Kd.R_far (p := ⟨gb294, 1, none⟩) (Kd.R_far (p := ⟨gb294, 0, none⟩) (Kd.R_types HO269.out BK294.out (by decide)) (fun _ hk => hk.2) (.int .i64 t289)) (fun _ hk => hk.2) (.int .i64 t290)) (fun _ hk => hk.2) (.slice Ao71 t291.length co71)) (fun _ hk => trivial)⟩
          have n4_ : Aside0 (Kd.N k50 50 (((w67.setCell ⟨gb294, 0, none⟩ (.int .i64 t289)).setCell ⟨gb294, 1, none⟩ (.int .i64 t290)).setCell ⟨gb294, 2, none⟩ (.slice Ao71 t291.length co71)) w.heap.size (fun k_ => some k_ ≠ (.slice Ao33 y257.length co33 : Value).ownBlock ∧ some k_ ≠ (.slice Ao39 y262.length co39 : Value).ownBlock ∧ some k_ ≠ (.slice Ao47 y267.length co47 : Value).ownBlock ∧ some k_ ≠ (.slice Ao53 y275.length co53 : Value).ownBlock ∧ some k_ ≠ (.slice Ao59 y278.length co59 : Value).ownBlock ∧ some k_ ≠ (.slice Ao60 y281.length co60 : Value).ownBlock ∧ some k_ ≠ (.slice Ao65 y286.length co65 : Value).ownBlock ∧ some k_ ≠ (.slice Ao71 t291.length co71 : Value).ownBlock ∧ k_ ≠ gb251 ∧ k_ ≠ gb256 ∧ k_ ≠ gb294) (.slice Ao48 y270.length co48) y270) := ⟨by (with_reducible repeat (first | apply Kd.N_alloc | apply Kd.N_drewN | apply Kd.N_drew)); exact Kd.N_mono (Kd.N_far (p := ⟨gb294, 2, none⟩) (Kd.N_far (p := ⟨gb294, 1, none⟩) (Kd.N_far (p := ⟨gb294, 0, none⟩) (Kd.N_mono HO272.out (fun k_ hk => (⟨hk, hk.2⟩ : _ ∧ k_ ≠ gb294))) (fun _ hk => hk.2) (.int .i64 t289)) (fun _ hk => hk.2) (.int .i64 t290)) (fun _ hk => hk.2) (.slice Ao71 t291.length co71)) (fun _ hk => ⟨hk.1.1.1.1.1.1.1.1, ⟨hk.1.1.1.1.1.1.1.2.1, ⟨hk.1.1.1.1.1.1.1.2.2.1, ⟨hk.1.1.1.1.1.1.2, ⟨hk.1.1.1.1.1.2, ⟨hk.1.1.1.1.2, ⟨hk.1.1.1.2, ⟨hk.1.1.2, ⟨hk.1.1.1.1.1.1.1.2.2.2.1, ⟨hk.1.1.1.1.1.1.1.2.2.2.2, hk.1.2⟩⟩⟩⟩⟩⟩⟩⟩⟩⟩)⟩
          have n5_ : Aside0 (Kd.R k61 61 (((w67.setCell ⟨gb294, 0, none⟩ (.int .i64 t289)).setCell ⟨gb294, 1, none⟩ (.int .i64 t290)).setCell ⟨gb294, 2, none⟩ (.slice Ao71 t291.length co71)) w.heap.size (fun _ => True) (.slice Ao53 y275.length co53) y275) := ⟨by exact uR <| Kd.R_mono (Kd.R_far (p := ⟨gb294, 2, none⟩) (Kd.R_far (p := ⟨gb294, 1, none⟩) (Kd.R_far (p := ⟨gb294, 0, none⟩) (Kd.R_types HO277.out BK294.out (by decide)) (fun _ hk => hk.2) (.int .i64 t289)) (fun _ hk => hk.2) (.int .i64 t290)) (fun _ hk => hk.2) (.slice Ao71 t291.length co71)) (fun _ hk => trivial)⟩
          have n6_ : Aside0 (Kd.N (Kd.slice 61 k61) 62 (((w67.setCell ⟨gb294, 0, none⟩ (.int .i64 t289)).setCell ⟨gb294, 1, none⟩ (.int .i64 t290)).setCell ⟨gb294, 2, none⟩ (.slice Ao71 t291.length co71)) w.heap.size (fun k_ => some k_ ≠ (.slice Ao25 t252.length co25 : Value).ownBlock ∧ some k_ ≠ (.slice Ao33 y257.length co33 : Value).ownBlock ∧ some k_ ≠ (.slice Ao39 y262.length co39 : Value).ownBlock ∧ some k_ ≠ (.slice Ao47 y267.length co47 : Value).ownBlock ∧ some k_ ≠ (.slice Ao48 y270.length co48 : Value).ownBlock ∧ some k_ ≠ (.slice Ao60 y281.length co60 : Value).ownBlock ∧ some k_ ≠ (.slice Ao65 y286.length co65 : Value).ownBlock ∧ some k_ ≠ (.slice Ao71 t291.length co71 : Value).ownBlock ∧ k_ ≠ gb251 ∧ k_ ≠ gb256 ∧ k_ ≠ gb294) (.slice Ao59 y278.length co59) y278) := ⟨by (with_reducible repeat (first | apply Kd.N_alloc | apply Kd.N_drewN | apply Kd.N_drew)); exact Kd.N_mono (Kd.N_far (p := ⟨gb294, 2, none⟩) (Kd.N_far (p := ⟨gb294, 1, none⟩) (Kd.N_far (p := ⟨gb294, 0, none⟩) (Kd.N_mono HO280.out (fun k_ hk => (⟨hk, hk.2⟩ : _ ∧ k_ ≠ gb294))) (fun _ hk => hk.2) (.int .i64 t289)) (fun _ hk => hk.2) (.int .i64 t290)) (fun _ hk => hk.2) (.slice Ao71 t291.length co71)) (fun _ hk => ⟨hk.1.1.1.1.1.1, ⟨hk.1.1.1.1.1.2.1, ⟨hk.1.1.1.1.1.2.2.1, ⟨hk.1.1.1.1.1.2.2.2.1, ⟨hk.1.1.1.1.1.2.2.2.2.1, ⟨hk.1.1.1.1.2, ⟨hk.1.1.1.2, ⟨hk.1.1.2, ⟨hk.1.1.1.1.1.2.2.2.2.2.1, ⟨hk.1.1.1.1.1.2.2.2.2.2.2, hk.1.2⟩⟩⟩⟩⟩⟩⟩⟩⟩⟩)⟩
          have n7_ : Aside0 (Kd.N k50 50 (((w67.setCell ⟨gb294, 0, none⟩ (.int .i64 t289)).setCell ⟨gb294, 1, none⟩ (.int .i64 t290)).setCell ⟨gb294, 2, none⟩ (.slice Ao71 t291.length co71)) w.heap.size (fun k_ => some k_ ≠ (.slice Ao33 y257.length co33 : Value).ownBlock ∧ some k_ ≠ (.slice Ao39 y262.length co39 : Value).ownBlock ∧ some k_ ≠ (.slice Ao47 y267.length co47 : Value).ownBlock ∧ some k_ ≠ (.slice Ao48 y270.length co48 : Value).ownBlock ∧ some k_ ≠ (.slice Ao53 y275.length co53 : Value).ownBlock ∧ some k_ ≠ (.slice Ao59 y278.length co59 : Value).ownBlock ∧ some k_ ≠ (.slice Ao65 y286.length co65 : Value).ownBlock ∧ some k_ ≠ (.slice Ao71 t291.length co71 : Value).ownBlock ∧ k_ ≠ gb251 ∧ k_ ≠ gb256 ∧ k_ ≠ gb294) (.slice Ao60 y281.length co60) y281) := ⟨by (with_reducible repeat (first | apply Kd.N_alloc | apply Kd.N_drewN | apply Kd.N_drew)); exact Kd.N_mono (Kd.N_far (p := ⟨gb294, 2, none⟩) (Kd.N_far (p := ⟨gb294, 1, none⟩) (Kd.N_far (p := ⟨gb294, 0, none⟩) (Kd.N_mono HO283.out (fun k_ hk => (⟨hk, hk.2⟩ : _ ∧ k_ ≠ gb294))) (fun _ hk => hk.2) (.int .i64 t289)) (fun _ hk => hk.2) (.int .i64 t290)) (fun _ hk => hk.2) (.slice Ao71 t291.length co71)) (fun _ hk => ⟨hk.1.1.1.1.1, ⟨hk.1.1.1.1.2.1, ⟨hk.1.1.1.1.2.2.1, ⟨hk.1.1.1.1.2.2.2.1, ⟨hk.1.1.1.1.2.2.2.2.1, ⟨hk.1.1.1.1.2.2.2.2.2.1, ⟨hk.1.1.1.2, ⟨hk.1.1.2, ⟨hk.1.1.1.1.2.2.2.2.2.2.1, ⟨hk.1.1.1.1.2.2.2.2.2.2.2, hk.1.2⟩⟩⟩⟩⟩⟩⟩⟩⟩⟩)⟩
          have n8_ : Aside0 (Kd.N k50 50 (((w67.setCell ⟨gb294, 0, none⟩ (.int .i64 t289)).setCell ⟨gb294, 1, none⟩ (.int .i64 t290)).setCell ⟨gb294, 2, none⟩ (.slice Ao71 t291.length co71)) w.heap.size (fun k_ => some k_ ≠ (.slice Ao33 y257.length co33 : Value).ownBlock ∧ some k_ ≠ (.slice Ao39 y262.length co39 : Value).ownBlock ∧ some k_ ≠ (.slice Ao47 y267.length co47 : Value).ownBlock ∧ some k_ ≠ (.slice Ao48 y270.length co48 : Value).ownBlock ∧ some k_ ≠ (.slice Ao53 y275.length co53 : Value).ownBlock ∧ some k_ ≠ (.slice Ao59 y278.length co59 : Value).ownBlock ∧ some k_ ≠ (.slice Ao60 y281.length co60 : Value).ownBlock ∧ some k_ ≠ (.slice Ao71 t291.length co71 : Value).ownBlock ∧ k_ ≠ gb251 ∧ k_ ≠ gb256 ∧ k_ ≠ gb294) (.slice Ao65 y286.length co65) y286) := ⟨by (with_reducible repeat (first | apply Kd.N_alloc | apply Kd.N_drewN | apply Kd.N_drew)); exact Kd.N_mono (Kd.N_far (p := ⟨gb294, 2, none⟩) (Kd.N_far (p := ⟨gb294, 1, none⟩) (Kd.N_far (p := ⟨gb294, 0, none⟩) (Kd.N_mono HO288.out (fun k_ hk => (⟨hk, hk.2⟩ : _ ∧ k_ ≠ gb294))) (fun _ hk => hk.2) (.int .i64 t289)) (fun _ hk => hk.2) (.int .i64 t290)) (fun _ hk => hk.2) (.slice Ao71 t291.length co71)) (fun _ hk => ⟨hk.1.1.1.1, ⟨hk.1.1.1.2.1, ⟨hk.1.1.1.2.2.1, ⟨hk.1.1.1.2.2.2.1, ⟨hk.1.1.1.2.2.2.2.1, ⟨hk.1.1.1.2.2.2.2.2.1, ⟨hk.1.1.1.2.2.2.2.2.2.1, ⟨hk.1.1.2, ⟨hk.1.1.1.2.2.2.2.2.2.2.1, ⟨hk.1.1.1.2.2.2.2.2.2.2.2, hk.1.2⟩⟩⟩⟩⟩⟩⟩⟩⟩⟩)⟩
          have n9_ : Aside0 (Kd.R k56 56 (((w67.setCell ⟨gb294, 0, none⟩ (.int .i64 t289)).setCell ⟨gb294, 1, none⟩ (.int .i64 t290)).setCell ⟨gb294, 2, none⟩ (.slice Ao71 t291.length co71)) w.heap.size (fun _ => True) (.slice Ao71 t291.length co71) t291) := ⟨by exact uR <| Kd.R_mono (Kd.R_far (p := ⟨gb294, 2, none⟩) (Kd.R_far (p := ⟨gb294, 1, none⟩) (Kd.R_far (p := ⟨gb294, 0, none⟩) (Kd.R_types HO293.out BK294.out (by decide)) (fun _ hk => hk.2) (.int .i64 t289)) (fun _ hk => hk.2) (.int .i64 t290)) (fun _ hk => hk.2) (.slice Ao71 t291.length co71)) (fun _ hk => trivial)⟩
          have n10_ : Aside0 ((((w67.setCell ⟨gb294, 0, none⟩ (.int .i64 t289)).setCell ⟨gb294, 1, none⟩ (.int .i64 t290)).setCell ⟨gb294, 2, none⟩ (.slice Ao71 t291.length co71)).heap[gb251]? = some (.cells #[.int .i64 0, .int .i64 0, .int .i64 10, .int .i64 5, .int .i64 0] 23 (0, 0))) := ⟨by (with_reducible repeat (first | refine blk_drewN ?_ _ | refine blk_drew ?_ | refine blk_alloc ?_ _)); refine blk_far ?_ NB251_294.out _; (with_reducible repeat (first | refine blk_drewN ?_ _ | refine blk_drew ?_ | refine blk_alloc ?_ _)); refine blk_far ?_ NB251_294.out _; (with_reducible repeat (first | refine blk_drewN ?_ _ | refine blk_drew ?_ | refine blk_alloc ?_ _)); refine blk_far ?_ NB251_294.out _; exact uB <| BK251.out⟩
          have n11_ : Aside0 ((((w67.setCell ⟨gb294, 0, none⟩ (.int .i64 t289)).setCell ⟨gb294, 1, none⟩ (.int .i64 t290)).setCell ⟨gb294, 2, none⟩ (.slice Ao71 t291.length co71)).heap[gb256]? = some (.cells #[.slice Ao25 t252.length co25] 50 (0, 0))) := ⟨by (with_reducible repeat (first | refine blk_drewN ?_ _ | refine blk_drew ?_ | refine blk_alloc ?_ _)); refine blk_far ?_ NB256_294.out _; (with_reducible repeat (first | refine blk_drewN ?_ _ | refine blk_drew ?_ | refine blk_alloc ?_ _)); refine blk_far ?_ NB256_294.out _; (with_reducible repeat (first | refine blk_drewN ?_ _ | refine blk_drew ?_ | refine blk_alloc ?_ _)); refine blk_far ?_ NB256_294.out _; exact uB <| BK256.out⟩
          have n12_ : Aside0 ((((w67.setCell ⟨gb294, 0, none⟩ (.int .i64 t289)).setCell ⟨gb294, 1, none⟩ (.int .i64 t290)).setCell ⟨gb294, 2, none⟩ (.slice Ao71 t291.length co71)).heap[gb294]? = some (.cells #[.int .i64 t289, .int .i64 t290, .slice Ao71 t291.length co71] 38 (0, 0))) := ⟨by (with_reducible repeat (first | refine blk_drewN ?_ _ | refine blk_drew ?_ | refine blk_alloc ?_ _)); refine blk_put (cs := #[.int .i64 t289, .int .i64 t290, .slice none 0 0]) ?_ 2 _ rfl; (with_reducible repeat (first | refine blk_drewN ?_ _ | refine blk_drew ?_ | refine blk_alloc ?_ _)); refine blk_put (cs := #[.int .i64 t289, .int .i64 0, .slice none 0 0]) ?_ 1 _ rfl; (with_reducible repeat (first | refine blk_drewN ?_ _ | refine blk_drew ?_ | refine blk_alloc ?_ _)); refine blk_put (cs := #[.int .i64 0, .int .i64 0, .slice none 0 0]) ?_ 0 _ rfl; exact uB <| BK294.out⟩
          have n13_ : Aside0 (Below w.heap.size w (((w67.setCell ⟨gb294, 0, none⟩ (.int .i64 t289)).setCell ⟨gb294, 1, none⟩ (.int .i64 t290)).setCell ⟨gb294, 2, none⟩ (.slice Ao71 t291.length co71))) := ⟨bl⟩
          (try clear HO254)
          (try clear HO259)
          (try clear HO264)
          (try clear HO269)
          (try clear HO272)
          (try clear HO277)
          (try clear HO280)
          (try clear HO283)
          (try clear HO288)
          (try clear HO293)
          (try clear BK251)
          (try clear BK256)
          (try clear BK294)
          (try clear HB)
          generalize (((w67.setCell ⟨gb294, 0, none⟩ (.int .i64 t289)).setCell ⟨gb294, 1, none⟩ (.int .i64 t290)).setCell ⟨gb294, 2, none⟩ (.slice Ao71 t291.length co71)) = w72 at n0_ n1_ n2_ n3_ n4_ n5_ n6_ n7_ n8_ n9_ n10_ n11_ n12_ n13_ ⊢
          have HO254 := n0_
          have HO259 := n1_
          have HO264 := n2_
          have HO269 := n3_
          have HO272 := n4_
          have HO277 := n5_
          have HO280 := n6_
          have HO283 := n7_
          have HO288 := n8_
          have HO293 := n9_
          have BK251 := n10_
          have BK256 := n11_
          have BK294 := n12_
          have HB := n13_
          clear n0_ n1_ n2_ n3_ n4_ n5_ n6_ n7_ n8_ n9_ n10_ n11_ n12_ n13_
          have n0_ := Aside0.mk (Kd.N_drew HO254.out)
          have n1_ := Aside0.mk (Kd.N_drew HO259.out)
          have n2_ := Aside0.mk (Kd.N_drew HO264.out)
          have n3_ := Aside0.mk (Kd.R_drew HO269.out)
          have n4_ := Aside0.mk (Kd.N_drew HO272.out)
          have n5_ := Aside0.mk (Kd.R_drew HO277.out)
          have n6_ := Aside0.mk (Kd.N_drew HO280.out)
          have n7_ := Aside0.mk (Kd.N_drew HO283.out)
          have n8_ := Aside0.mk (Kd.N_drew HO288.out)
          have n9_ := Aside0.mk (Kd.R_drew HO293.out)
          have n10_ := Aside0.mk (blk_drew BK251.out)
          have n11_ := Aside0.mk (blk_drew BK256.out)
          have n12_ := Aside0.mk (blk_drew BK294.out)
          have n13_ := Aside0.mk (below_drew1 HB.out)
          clear HO254
          clear HO259
          clear HO264
          clear HO269
          clear HO272
          clear HO277
          clear HO280
          clear HO283
          clear HO288
          clear HO293
          clear BK251
          clear BK256
          clear BK294
          clear HB
          have HO254 := n0_
          have HO259 := n1_
          have HO264 := n2_
          have HO269 := n3_
          have HO272 := n4_
          have HO277 := n5_
          have HO280 := n6_
          have HO283 := n7_
          have HO288 := n8_
          have HO293 := n9_
          have BK251 := n10_
          have BK256 := n11_
          have BK294 := n12_
          have HB := n13_
          clear n0_ n1_ n2_ n3_ n4_ n5_ n6_ n7_ n8_ n9_ n10_ n11_ n12_ n13_
          refine start_ (n := 48) (S := fun w' => w'.cell? ⟨gb294, 0, none⟩ = some (.int .i64 t289) ∧ w'.cell? ⟨gb294, 1, none⟩ = some (.int .i64 t290) ∧ w'.cell? ⟨gb294, 2, none⟩ = some (.slice Ao71 t291.length co71)) (ds := []) #[false, false, false, false, false, false, false, false, false, false, false, false, false, false, false, false, false, false, false, false, false, false, false, false, false, false, false, false, false, false, false, false, false, false, false, false, false, false, false, false, false, false, false, false, false, false, false, false] (by kernel_rfl) rfl rfl ⟨(blk_cell BK294.out 0).trans rfl, (blk_cell BK294.out 1).trans rfl, (blk_cell BK294.out 2).trans rfl⟩ (fun hHeld => ?_); refine with_tabW ebbtidelaw17_alive.tab8 ebbtidelaw17_alive.bits8 (fun HT_ HW_ => ?_)
          generalize w72.drew = w73 at HO254 HO259 HO264 HO269 HO272 HO277 HO280 HO283 HO288 HO293 BK251 BK256 BK294 HB hHeld ⊢
          refine p1 0 (some 57) ?_
          refine p1 1 (some 58) ?_
          refine p1 2 (some 59) ?_
          refine p1 3 (some 60) ?_
          refine p1 4 (some 61) ?_
          refine p1 5 (some 62) ?_
          refine p1 6 (some 63) ?_
          refine p1 7 (some 64) ?_
          refine p1 8 (some 65) ?_
          refine p1 9 (some 66) ?_
          refine p1 10 (some 67) ?_
          refine p1 11 (some 68) ?_
          refine p1 12 (some 69) ?_
          refine p1 13 (some 70) ?_
          refine p1 14 (some 71) ?_
          refine p1 15 (some 72) ?_
          refine p1 16 (some 73) ?_
          refine p1 17 (some 74) ?_
          refine p1 18 (some 75) ?_
          refine t1 19 (some 76) rfl rfl hHeld (Or.inl ⟨by rfl, by rintro w' ⟨s0, s1, s2⟩; go_simp; with_reducible rfl⟩) ?_
          refine p1 20 (some 77) ?_
          refine p1 21 (some 78) ?_
          refine p1 22 (some 79) ?_
          refine p1 23 (some 80) ?_
          refine t1 24 (some 81) rfl rfl hHeld (Or.inl ⟨by rfl, by rintro w' ⟨s0, s1, s2⟩; go_simp; with_reducible rfl⟩) ?_
          refine p1 25 (some 82) ?_
          refine p1 26 (some 83) ?_
          refine p1 27 (some 84) ?_
          refine p1 28 (some 85) ?_
          refine t1 29 (some 86) rfl rfl hHeld (Or.inl ⟨by rfl, by rintro w' ⟨s0, s1, s2⟩; go_simp; with_reducible rfl⟩) ?_
          refine one_ (i := 30) (N := some 87) #[true, true, true, true, true, true, true, true, true, true, true, true, true, true, true, true, true, true, true, true, true, true, true, true, true, true, true, true, true, true, true, false, false, false, false, false, false, false, false, false, false, false, false, false, false, false, false, false] rfl rfl (one_of HT_.out (by kernel_rfl)) (by decide) (fun K hK => ?_)
          refine Kd.R_lit_step (Kd.int .i64) _ 2 ?hg (N := 87) ?hd (xs := ([3] : List Int)) (inner := [.int .i64 3]) (ok := fun _ => True) (okp := fun _ => True) ?hr ?hp (fun _ hk => hk) trivial (Below.refl _ _) (Nat.le_refl _) (by simp) ?_; (case hd => rfl); (case hg => rfl); (case hr => first | (go_simp; done) | (go_simp; rfl)); (case hp => exact (Reps.one (show Kd.M (Kd.int .i64) _ _ _ 3 [.int .i64 3] from rfl) (Reps.none _ _)))
          intro v296 w74 ho75 hb hg_ hnew_
          clear hg_ hnew_
          (first | rw [← Ny295.out] at ho75 | (simp only [Int.reduceToNat] at ho75; rw [← Ny295.out] at ho75))
          have n0_ := Aside0.mk (Kd.N_elder' (by (with_reducible repeat (first | apply Kd.N_alloc | apply Kd.N_drewN | apply Kd.N_drew)); exact HO254.out) (Kd.R_base ho75) hb)
          have n1_ := Aside0.mk (Kd.N_elder' (by (with_reducible repeat (first | apply Kd.N_alloc | apply Kd.N_drewN | apply Kd.N_drew)); exact HO259.out) (Kd.R_base ho75) hb)
          have n2_ := Aside0.mk (Kd.N_elder' (by (with_reducible repeat (first | apply Kd.N_alloc | apply Kd.N_drewN | apply Kd.N_drew)); exact HO264.out) (Kd.R_base ho75) hb)
          have n3_ := cR HO269 hb
          have n4_ := Aside0.mk (Kd.N_elder' (by (with_reducible repeat (first | apply Kd.N_alloc | apply Kd.N_drewN | apply Kd.N_drew)); exact HO272.out) (Kd.R_base ho75) hb)
          have n5_ := cR HO277 hb
          have n6_ := Aside0.mk (Kd.N_elder' (by (with_reducible repeat (first | apply Kd.N_alloc | apply Kd.N_drewN | apply Kd.N_drew)); exact HO280.out) (Kd.R_base ho75) hb)
          have n7_ := Aside0.mk (Kd.N_elder' (by (with_reducible repeat (first | apply Kd.N_alloc | apply Kd.N_drewN | apply Kd.N_drew)); exact HO283.out) (Kd.R_base ho75) hb)
          have n8_ := Aside0.mk (Kd.N_elder' (by (with_reducible repeat (first | apply Kd.N_alloc | apply Kd.N_drewN | apply Kd.N_drew)); exact HO288.out) (Kd.R_base ho75) hb)
          have n9_ := cR HO293 hb
          have n10_ := Aside0.mk (Kd.R_lower ho75 (below_size bl))
          have n11_ := cB BK251 hb
          have n12_ := cB BK256 hb
          have n13_ := cB BK294 hb
          have n14_ := Aside0.mk (below_step bl hb)
          clear HO254
          clear HO259
          clear HO264
          clear HO269
          clear HO272
          clear HO277
          clear HO280
          clear HO283
          clear HO288
          clear HO293
          clear BK251
          clear BK256
          clear BK294
          clear HB
          have HO254 := n0_
          have HO259 := n1_
          have HO264 := n2_
          have HO269 := n3_
          have HO272 := n4_
          have HO277 := n5_
          have HO280 := n6_
          have HO283 := n7_
          have HO288 := n8_
          have HO293 := n9_
          have HO297 := n10_
          have BK251 := n11_
          have BK256 := n12_
          have BK294 := n13_
          have HB := n14_
          clear n0_ n1_ n2_ n3_ n4_ n5_ n6_ n7_ n8_ n9_ n10_ n11_ n12_ n13_ n14_
          clear hb ho75
          obtain ⟨Ao76, co76, eo76⟩ := Kd.R_slice HO297.out
          (first | subst eo76 | (injection eo76 with f1_ f2_ f3_; have f4_ := f1_.symm; have f5_ := f3_.symm; clear f1_ f2_ f3_; subst f4_; subst f5_))
          refine hK.out _ _ ⟨(blk_cell BK294.out 0).trans rfl, (blk_cell BK294.out 1).trans rfl, (blk_cell BK294.out 2).trans rfl⟩ (fun hHeld => ?_)
          clear hK K
          refine norm_ (a' := ?_) ?_ ?_
          rotate_left
          ·
           show Act.put _ (some 87) _ = _
           simp only [Act.put, List.setIfInBounds_toArray, List.set_cons_zero, List.set_cons_succ, i64_w, i32_w]
           rfl
          refine one_ (i := 31) (N := some 88) #[true, true, true, true, true, true, true, true, true, true, true, true, true, true, true, true, true, true, true, true, true, true, true, true, true, true, true, true, true, true, true, true, false, false, false, false, false, false, false, false, false, false, false, false, false, false, false, false] rfl rfl (one_of HT_.out (by kernel_rfl)) (by decide) (fun K hK => ?_)
          refine goes_ Try.func21 (by kernel_rfl) rfl #[.slice Ao76 y295.length co76] (by rfl) rfl rfl (by (try simp only [List.map_toArray, List.map_cons, List.map_nil]); first | done | rfl | (simp only [List.length_drop, List.length_take]; rfl)) ?_
          with_reducible refine (ebbtideref06_Of.calls k _ _ y295 t298 t299 t300 t301 t302 _ ?side1 ?side2 A14.out).mono ?_
          (case side1 => exact uC <| (Kd.R_reads' HO297.out).2.2)
          (case side2 => exact (Kd.R_reads' HO297.out).2.1)
          rintro e w77 ⟨rfl, hb⟩
          refine ⟨_, rfl, ?_⟩
          have n0_ := Aside0.mk (Kd.N_below (by (with_reducible repeat (first | apply Kd.N_alloc | apply Kd.N_drewN | apply Kd.N_drew)); exact HO254.out) hb)
          have n1_ := Aside0.mk (Kd.N_below (by (with_reducible repeat (first | apply Kd.N_alloc | apply Kd.N_drewN | apply Kd.N_drew)); exact HO259.out) hb)
          have n2_ := Aside0.mk (Kd.N_below (by (with_reducible repeat (first | apply Kd.N_alloc | apply Kd.N_drewN | apply Kd.N_drew)); exact HO264.out) hb)
          have n3_ := cR HO269 hb
          have n4_ := Aside0.mk (Kd.N_below (by (with_reducible repeat (first | apply Kd.N_alloc | apply Kd.N_drewN | apply Kd.N_drew)); exact HO272.out) hb)
          have n5_ := cR HO277 hb
          have n6_ := Aside0.mk (Kd.N_below (by (with_reducible repeat (first | apply Kd.N_alloc | apply Kd.N_drewN | apply Kd.N_drew)); exact HO280.out) hb)
          have n7_ := Aside0.mk (Kd.N_below (by (with_reducible repeat (first | apply Kd.N_alloc | apply Kd.N_drewN | apply Kd.N_drew)); exact HO283.out) hb)
          have n8_ := Aside0.mk (Kd.N_below (by (with_reducible repeat (first | apply Kd.N_alloc | apply Kd.N_drewN | apply Kd.N_drew)); exact HO288.out) hb)
          have n9_ := cR HO293 hb
          have n10_ := cR HO297 hb
          have n11_ := cB BK251 hb
          have n12_ := cB BK256 hb
          have n13_ := cB BK294 hb
          have n14_ := Aside0.mk (below_step bl hb)
          clear HO254
          clear HO259
          clear HO264
          clear HO269
          clear HO272
          clear HO277
          clear HO280
          clear HO283
          clear HO288
          clear HO293
          clear HO297
          clear BK251
          clear BK256
          clear BK294
          clear HB
          have HO254 := n0_
          have HO259 := n1_
          have HO264 := n2_
          have HO269 := n3_
          have HO272 := n4_
          have HO277 := n5_
          have HO280 := n6_
          have HO283 := n7_
          have HO288 := n8_
          have HO293 := n9_
          have HO297 := n10_
          have BK251 := n11_
          have BK256 := n12_
          have BK294 := n13_
          have HB := n14_
          clear n0_ n1_ n2_ n3_ n4_ n5_ n6_ n7_ n8_ n9_ n10_ n11_ n12_ n13_ n14_
          (try clear hb)
          (try clear hb2)
          (try clear hk)
          (try clear hi)
          refine hK.out _ _ ⟨(blk_cell BK294.out 0).trans rfl, (blk_cell BK294.out 1).trans rfl, (blk_cell BK294.out 2).trans rfl⟩ (fun hHeld => ?_)
          clear hK K
          refine norm_ (a' := ?_) ?_ ?_
          rotate_left
          ·
           show Act.put _ (some 88) _ = _
           simp only [Act.put, List.setIfInBounds_toArray, List.set_cons_zero, List.set_cons_succ, i64_w, i32_w]
           rfl
          refine p1 32 (some 89) ?_
          refine one_ (i := 33) (N := some 90) #[true, true, true, true, true, true, true, true, true, true, true, true, true, true, true, true, true, true, true, true, true, true, true, true, true, true, true, true, true, true, true, true, true, true, false, false, false, false, false, false, false, false, false, false, false, false, false, false] rfl rfl (one_of HT_.out (by kernel_rfl)) (by decide) (fun K hK => ?_)
          refine Kd.R_lit_step k56 _ 56 ?hg (N := 90) ?hd (xs := ([(⟨2, (⟨#[99, 112, 117]⟩ : ByteArray), (⟨t298, (⟨t299, t300⟩ : S52), t301, t302⟩ : S54)⟩ : S56)] : List (S56))) (inner := [.int .i64 2, .string (⟨#[99, 112, 117]⟩ : ByteArray), .int .i64 t298, .int .i64 t299, .bool t300, .int .i64 t301, .int .i64 t302]) (ok := fun _ => True) (okp := fun _ => True) ?hr ?hp (fun _ hk => hk) trivial (Below.refl _ _) (Nat.le_refl _) (by simp) ?_; (case hd => rfl); (case hg => rfl); (case hr => first | (go_simp; done) | (go_simp; rfl)); (case hp => exact (Reps.c7 (show Kd.M k56 _ _ _ (⟨2, (⟨#[99, 112, 117]⟩ : ByteArray), (⟨t298, (⟨t299, t300⟩ : S52), t301, t302⟩ : S54)⟩ : S56) [.int .i64 2, .string (⟨#[99, 112, 117]⟩ : ByteArray), .int .i64 t298, .int .i64 t299, .bool t300, .int .i64 t301, .int .i64 t302] from (k56_mkM _ _ _ (⟨2, (⟨#[99, 112, 117]⟩ : ByteArray), (⟨t298, (⟨t299, t300⟩ : S52), t301, t302⟩ : S54)⟩ : S56) )) (Reps.none _ _)))
          intro v304 w78 ho79 hb hg_ hnew_
          clear hg_ hnew_
          (first | rw [← Ny303.out] at ho79 | (simp only [Int.reduceToNat] at ho79; rw [← Ny303.out] at ho79))
          have n0_ := Aside0.mk (Kd.N_elder' (by (with_reducible repeat (first | apply Kd.N_alloc | apply Kd.N_drewN | apply Kd.N_drew)); exact HO254.out) (Kd.R_base ho79) hb)
          have n1_ := Aside0.mk (Kd.N_elder' (by (with_reducible repeat (first | apply Kd.N_alloc | apply Kd.N_drewN | apply Kd.N_drew)); exact HO259.out) (Kd.R_base ho79) hb)
          have n2_ := Aside0.mk (Kd.N_elder' (by (with_reducible repeat (first | apply Kd.N_alloc | apply Kd.N_drewN | apply Kd.N_drew)); exact HO264.out) (Kd.R_base ho79) hb)
          have n3_ := cR HO269 hb
          have n4_ := Aside0.mk (Kd.N_elder' (by (with_reducible repeat (first | apply Kd.N_alloc | apply Kd.N_drewN | apply Kd.N_drew)); exact HO272.out) (Kd.R_base ho79) hb)
          have n5_ := cR HO277 hb
          have n6_ := Aside0.mk (Kd.N_elder' (by (with_reducible repeat (first | apply Kd.N_alloc | apply Kd.N_drewN | apply Kd.N_drew)); exact HO280.out) (Kd.R_base ho79) hb)
          have n7_ := Aside0.mk (Kd.N_elder' (by (with_reducible repeat (first | apply Kd.N_alloc | apply Kd.N_drewN | apply Kd.N_drew)); exact HO283.out) (Kd.R_base ho79) hb)
          have n8_ := Aside0.mk (Kd.N_elder' (by (with_reducible repeat (first | apply Kd.N_alloc | apply Kd.N_drewN | apply Kd.N_drew)); exact HO288.out) (Kd.R_base ho79) hb)
          have n9_ := Aside0.mk (Kd.R_elder' (uR HO293.out) (Kd.R_base ho79) hb)
          have n10_ := cR HO297 hb
          have n11_ := Aside0.mk (Kd.R_lower (Kd.R_new' ho79 (Kd.R_lt (uR HO293.out))) (below_size bl))
          have n12_ := cB BK251 hb
          have n13_ := cB BK256 hb
          have n14_ := cB BK294 hb
          have n15_ := Aside0.mk (below_step bl hb)
          clear HO254
          clear HO259
          clear HO264
          clear HO269
          clear HO272
          clear HO277
          clear HO280
          clear HO283
          clear HO288
          clear HO293
          clear HO297
          clear BK251
          clear BK256
          clear BK294
          clear HB
          have HO254 := n0_
          have HO259 := n1_
          have HO264 := n2_
          have HO269 := n3_
          have HO272 := n4_
          have HO277 := n5_
          have HO280 := n6_
          have HO283 := n7_
          have HO288 := n8_
          have HO293 := n9_
          have HO297 := n10_
          have HO305 := n11_
          have BK251 := n12_
          have BK256 := n13_
          have BK294 := n14_
          have HB := n15_
          clear n0_ n1_ n2_ n3_ n4_ n5_ n6_ n7_ n8_ n9_ n10_ n11_ n12_ n13_ n14_ n15_
          clear hb ho79
          obtain ⟨Ao80, co80, eo80⟩ := Kd.R_slice HO305.out
          (first | subst eo80 | (injection eo80 with f1_ f2_ f3_; have f4_ := f1_.symm; have f5_ := f3_.symm; clear f1_ f2_ f3_; subst f4_; subst f5_))
          refine hK.out _ _ ⟨(blk_cell BK294.out 0).trans rfl, (blk_cell BK294.out 1).trans rfl, (blk_cell BK294.out 2).trans rfl⟩ (fun hHeld => ?_)
          clear hK K
          refine norm_ (a' := ?_) ?_ ?_
          rotate_left
          ·
           show Act.put _ (some 90) _ = _
           simp only [Act.put, List.setIfInBounds_toArray, List.set_cons_zero, List.set_cons_succ, i64_w, i32_w]
           rfl
          refine one_ (i := 34) (N := some 91) #[true, true, true, true, true, true, true, true, true, true, true, true, true, true, true, true, true, true, true, true, true, true, true, true, true, true, true, true, true, true, true, true, true, true, true, false, false, false, false, false, false, false, false, false, false, false, false, false] rfl rfl (one_of HT_.out (by kernel_rfl)) (by decide) (fun K hK => ?_)
          refine goes_ Try.func20 (by kernel_rfl) rfl #[.slice Ao71 t291.length co71, .slice Ao80 y303.length co80] (by rfl) rfl rfl (by (try simp only [List.map_toArray, List.map_cons, List.map_nil]); first | done | rfl | (simp only [List.length_drop, List.length_take]; rfl)) ?_
          with_reducible refine (ebbtideref08_Items.calls k _ _ t291 _ _ y303 true _ ?side1 ?side2 ?side3 ?side4 A15.out).mono ?_
          (case side1 => exact uC <| (Kd.R_reads' HO293.out).2.2)
          (case side2 => exact (Kd.R_reads' HO293.out).2.1)
          (case side3 => exact uC <| (Kd.R_reads' HO305.out).2.2)
          (case side4 => exact (Kd.R_reads' HO305.out).2.1)
          rintro e w' ⟨rfl, ⟨nd, rfl⟩⟩
          refine ⟨_, rfl, ?_⟩
          refine hK.out _ _ ⟨(blk_cell BK294.out 0).trans rfl, (blk_cell BK294.out 1).trans rfl, (blk_cell BK294.out 2).trans rfl⟩ (fun hHeld => ?_)
          clear hK K
          refine norm_ (a' := ?_) ?_ ?_
          rotate_left
          ·
           show Act.put _ (some 91) _ = _
           simp only [Act.put, List.setIfInBounds_toArray, List.set_cons_zero, List.set_cons_succ, i64_w, i32_w]
           rfl
          refine p1 35 (some 92) ?_
          refine p1 36 (some 93) ?_
          refine t1 37 (some 94) rfl rfl hHeld (Or.inl ⟨by rfl, by rintro w' ⟨s0, s1, s2⟩; go_simp; with_reducible rfl⟩) ?_
          refine t1 38 (some 95) rfl rfl hHeld (Or.inl ⟨by rfl, by rintro w' ⟨s0, s1, s2⟩; go_simp; with_reducible rfl⟩) ?_
          refine one_ (i := 39) (N := some 96) #[true, true, true, true, true, true, true, true, true, true, true, true, true, true, true, true, true, true, true, true, true, true, true, true, true, true, true, true, true, true, true, true, true, true, true, true, true, true, true, true, false, false, false, false, false, false, false, false] rfl rfl (one_of HT_.out (by kernel_rfl)) (by decide) (fun K hK => ?_)
          refine goes_ Try.func15 (by kernel_rfl) rfl #[.agg #[.int .i64 t289, .int .i64 t290, .slice Ao71 t291.length co71], .agg #[.int .i64 t289, .int .i64 t290, .slice Ao71 t291.length co71]] (by rfl) rfl rfl (by (try simp only [List.map_toArray, List.map_cons, List.map_nil]); first | done | rfl | (simp only [List.length_drop, List.length_take]; rfl)) ?_
          with_reducible refine (emit_Same.calls k t289 t290 _ _ t291 t289 t290 _ _ t291 true _ ?side1 ?side2 ?side3 ?side4 A17.out).mono ?_
          (case side1 => exact uC <| (Kd.R_reads' HO293.out).2.2)
          (case side2 => exact (Kd.R_reads' HO293.out).2.1)
          (case side3 => exact uC <| (Kd.R_reads' HO293.out).2.2)
          (case side4 => exact (Kd.R_reads' HO293.out).2.1)
          rintro e w81 ⟨rfl, hb⟩
          refine ⟨_, rfl, ?_⟩
          have n0_ := Aside0.mk (Kd.N_below (by (with_reducible repeat (first | apply Kd.N_alloc | apply Kd.N_drewN | apply Kd.N_drew)); exact HO254.out) hb)
          have n1_ := Aside0.mk (Kd.N_below (by (with_reducible repeat (first | apply Kd.N_alloc | apply Kd.N_drewN | apply Kd.N_drew)); exact HO259.out) hb)
          have n2_ := Aside0.mk (Kd.N_below (by (with_reducible repeat (first | apply Kd.N_alloc | apply Kd.N_drewN | apply Kd.N_drew)); exact HO264.out) hb)
          have n3_ := cR HO269 hb
          have n4_ := Aside0.mk (Kd.N_below (by (with_reducible repeat (first | apply Kd.N_alloc | apply Kd.N_drewN | apply Kd.N_drew)); exact HO272.out) hb)
          have n5_ := cR HO277 hb
          have n6_ := Aside0.mk (Kd.N_below (by (with_reducible repeat (first | apply Kd.N_alloc | apply Kd.N_drewN | apply Kd.N_drew)); exact HO280.out) hb)
          have n7_ := Aside0.mk (Kd.N_below (by (with_reducible repeat (first | apply Kd.N_alloc | apply Kd.N_drewN | apply Kd.N_drew)); exact HO283.out) hb)
          have n8_ := Aside0.mk (Kd.N_below (by (with_reducible repeat (first | apply Kd.N_alloc | apply Kd.N_drewN | apply Kd.N_drew)); exact HO288.out) hb)
          have n9_ := cR HO293 hb
          have n10_ := cR HO297 hb
          have n11_ := cR HO305 hb
          have n12_ := cB BK251 hb
          have n13_ := cB BK256 hb
          have n14_ := cB BK294 hb
          have n15_ := Aside0.mk (below_step bl hb)
          clear HO254
          clear HO259
          clear HO264
          clear HO269
          clear HO272
          clear HO277
          clear HO280
          clear HO283
          clear HO288
          clear HO293
          clear HO297
          clear HO305
          clear BK251
          clear BK256
          clear BK294
          clear HB
          have HO254 := n0_
          have HO259 := n1_
          have HO264 := n2_
          have HO269 := n3_
          have HO272 := n4_
          have HO277 := n5_
          have HO280 := n6_
          have HO283 := n7_
          have HO288 := n8_
          have HO293 := n9_
          have HO297 := n10_
          have HO305 := n11_
          have BK251 := n12_
          have BK256 := n13_
          have BK294 := n14_
          have HB := n15_
          clear n0_ n1_ n2_ n3_ n4_ n5_ n6_ n7_ n8_ n9_ n10_ n11_ n12_ n13_ n14_ n15_
          (try clear hb)
          (try clear hb2)
          (try clear hk)
          (try clear hi)
          refine hK.out _ _ ⟨(blk_cell BK294.out 0).trans rfl, (blk_cell BK294.out 1).trans rfl, (blk_cell BK294.out 2).trans rfl⟩ (fun hHeld => ?_)
          clear hK K
          refine norm_ (a' := ?_) ?_ ?_
          rotate_left
          ·
           show Act.put _ (some 96) _ = _
           simp only [Act.put, List.setIfInBounds_toArray, List.set_cons_zero, List.set_cons_succ, i64_w, i32_w]
           rfl
          refine p1 40 (some 97) ?_
          refine p1 41 (some 98) ?_
          refine p1 43 (some 100) ?_
          refine t1 42 (some 99) rfl rfl hHeld (Or.inl ⟨by rfl, by rintro w' ⟨s0, s1, s2⟩; go_simp; with_reducible rfl⟩) ?_
          refine one_ (i := 44) (N := some 101) #[true, true, true, true, true, true, true, true, true, true, true, true, true, true, true, true, true, true, true, true, true, true, true, true, true, true, true, true, true, true, true, true, true, true, true, true, true, true, true, true, true, true, true, true, true, false, false, false] rfl rfl (one_of HT_.out (by kernel_rfl)) (by decide) (fun K hK => ?_)
          refine goes_ Try.func15 (by kernel_rfl) rfl #[.agg #[.int .i64 t289, .int .i64 t290, .slice Ao71 t291.length co71], .agg #[.int .i64 0, .int .i64 0, .slice none 0 0]] (by rfl) rfl rfl (by (try simp only [List.map_toArray, List.map_cons, List.map_nil]); first | done | rfl | (simp only [List.length_drop, List.length_take]; rfl)) ?_
          refine (emit_Same.calls k t289 t290 _ _ t291 0 0 _ _ ([] : List (S56)) t308 _ ?side1 ?side2 ?side3 ?side4 A19.out).mono ?_
          (case side1 => exact uC <| (Kd.R_reads' HO293.out).2.2)
          (case side2 => exact (Kd.R_reads' HO293.out).2.1)
          (case side3 => exact Kd.C_nil _ _)
          (case side4 => exact Nat.le_refl _)
          rintro e w82 ⟨rfl, hb⟩
          refine ⟨_, rfl, ?_⟩
          have n0_ := Aside0.mk (Kd.N_below (by (with_reducible repeat (first | apply Kd.N_alloc | apply Kd.N_drewN | apply Kd.N_drew)); exact HO254.out) hb)
          have n1_ := Aside0.mk (Kd.N_below (by (with_reducible repeat (first | apply Kd.N_alloc | apply Kd.N_drewN | apply Kd.N_drew)); exact HO259.out) hb)
          have n2_ := Aside0.mk (Kd.N_below (by (with_reducible repeat (first | apply Kd.N_alloc | apply Kd.N_drewN | apply Kd.N_drew)); exact HO264.out) hb)
          have n3_ := cR HO269 hb
          have n4_ := Aside0.mk (Kd.N_below (by (with_reducible repeat (first | apply Kd.N_alloc | apply Kd.N_drewN | apply Kd.N_drew)); exact HO272.out) hb)
          have n5_ := cR HO277 hb
          have n6_ := Aside0.mk (Kd.N_below (by (with_reducible repeat (first | apply Kd.N_alloc | apply Kd.N_drewN | apply Kd.N_drew)); exact HO280.out) hb)
          have n7_ := Aside0.mk (Kd.N_below (by (with_reducible repeat (first | apply Kd.N_alloc | apply Kd.N_drewN | apply Kd.N_drew)); exact HO283.out) hb)
          have n8_ := Aside0.mk (Kd.N_below (by (with_reducible repeat (first | apply Kd.N_alloc | apply Kd.N_drewN | apply Kd.N_drew)); exact HO288.out) hb)
          have n9_ := cR HO293 hb
          have n10_ := cR HO297 hb
          have n11_ := cR HO305 hb
          have n12_ := cB BK251 hb
          have n13_ := cB BK256 hb
          have n14_ := cB BK294 hb
          have n15_ := Aside0.mk (below_step bl hb)
          clear HO254
          clear HO259
          clear HO264
          clear HO269
          clear HO272
          clear HO277
          clear HO280
          clear HO283
          clear HO288
          clear HO293
          clear HO297
          clear HO305
          clear BK251
          clear BK256
          clear BK294
          clear HB
          have HO254 := n0_
          have HO259 := n1_
          have HO264 := n2_
          have HO269 := n3_
          have HO272 := n4_
          have HO277 := n5_
          have HO280 := n6_
          have HO283 := n7_
          have HO288 := n8_
          have HO293 := n9_
          have HO297 := n10_
          have HO305 := n11_
          have BK251 := n12_
          have BK256 := n13_
          have BK294 := n14_
          have HB := n15_
          clear n0_ n1_ n2_ n3_ n4_ n5_ n6_ n7_ n8_ n9_ n10_ n11_ n12_ n13_ n14_ n15_
          (try clear hb)
          (try clear hb2)
          (try clear hk)
          (try clear hi)
          refine hK.out _ _ ⟨(blk_cell BK294.out 0).trans rfl, (blk_cell BK294.out 1).trans rfl, (blk_cell BK294.out 2).trans rfl⟩ (fun hHeld => ?_)
          clear hK K
          refine norm_ (a' := ?_) ?_ ?_
          rotate_left
          ·
           show Act.put _ (some 101) _ = _
           simp only [Act.put, List.setIfInBounds_toArray, List.set_cons_zero, List.set_cons_succ, i64_w, i32_w]
           rfl
          refine p1 45 (some 102) ?_
          refine p1 46 (some 103) ?_
          refine p1 47 (some 0) ?_
          refine done_ (done_of HT_.out (by kernel_rfl)) ?_
          try go_wp2
          go_ret
          exact ⟨re_, bl⟩
         ·
          replace c18 := Bool.eq_false_iff.mpr c18
          subst c18
          rw [if_neg (show ¬ (false = true) by decide)] at H
          exact absurd H (by simp)
        ·
         replace c16 := Bool.eq_false_iff.mpr c16
         subst c16
         rw [if_neg (show ¬ (false = true) by decide)] at H
         exact absurd H (by simp)
       ·
        rw [if_neg c13] at H
        have c13b0 : (t290 == 9) = false := beq_eq_false_iff_ne.mpr c13
        have c13b1 : (t290 != 9) = true := bne_iff_ne.mpr c13
        exact absurd H (by simp)
      ·
       rw [if_neg c12] at H
       have c12b0 : (t289 == 2) = false := beq_eq_false_iff_ne.mpr c12
       have c12b1 : (t289 != 2) = true := bne_iff_ne.mpr c12
       exact absurd H (by simp)
  ·
   rw [if_neg c8] at H
   have c8b0 : (t260 == 2) = false := beq_eq_false_iff_ne.mpr c8
   have c8b1 : (t260 != 2) = true := bne_iff_ne.mpr c8
   exact absurd H (by simp)
 ·
  replace c7 := Bool.eq_false_iff.mpr c7
  subst c7
  rw [if_neg (show ¬ (false = true) by decide)] at H
  exact absurd H (by simp)
end Go.Proofs.Ytklhjponikgkkaa.X
