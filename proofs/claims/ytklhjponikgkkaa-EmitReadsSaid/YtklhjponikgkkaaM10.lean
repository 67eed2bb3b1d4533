/- Plain facts on what the printed functions compute, joined; each says its conditions. -/
import Derived.Test.YtklhjponikgkkaaM1
import Derived.Test.YtklhjponikgkkaaM9
section
namespace Go.Proofs.Ytklhjponikgkkaa.Ord
open Go.Proofs.Ytklhjponikgkkaa.Bytes
abbrev T := List UInt8
abbrev less (a b : T) : Bool := Op.bytesLess a b
theorem less_cons (a b : UInt8) (x y : T) : less (a :: x) (b :: y) = (decide (a < b) || (a == b && less x y)) := rfl
theorem lt_nat {a b : UInt8} : a < b ↔ a.toNat < b.toNat := UInt8.lt_iff_toNat_lt
theorem eq_nat {a b : UInt8} : a = b ↔ a.toNat = b.toNat := ⟨fun h => by rw [h], fun h => UInt8.toNat_inj.mp h⟩
theorem less_iff (a b : UInt8) (x y : T) : less (a :: x) (b :: y) = true ↔ a.toNat < b.toNat ∨ (a = b ∧ less x y = true) := by
 rw [less_cons, Bool.or_eq_true, Bool.and_eq_true, decide_eq_true_eq, beq_iff_eq, lt_nat]
theorem less_nil (a : T) : less a [] = false := by cases a <;> rfl
theorem nil_less (b : UInt8) (y : T) : less [] (b :: y) = true := rfl
theorem irrefl : ∀ a : T, less a a = false
 | [] => rfl
 | a :: x => by
  rw [Bool.eq_false_iff]
  intro h
  rcases (less_iff a a x x).mp h with h | ⟨_, h⟩
  ·
   omega
  ·
   rw [irrefl x] at h
   cases h
theorem trans : ∀ {a b c : T}, less a b = true → less b c = true → less a c = true
 | _, [], _, h, _ => by rw [less_nil] at h; cases h
 | _, _ :: _, [], _, h => by rw [less_nil] at h; cases h
 | [], _ :: _, c :: z, _, _ => nil_less c z
 | a :: x, b :: y, c :: z, h1, h2 => by
  rw [less_iff] at h1 h2 ⊢
  rcases h1 with h1 | ⟨e1, h1⟩
  ·
   rcases h2 with h2 | ⟨e2, _⟩
   ·
    exact .inl (by omega)
   ·
    rw [eq_nat] at e2
    exact .inl (by omega)
  ·
   subst e1
   rcases h2 with h2 | ⟨e2, h2⟩
   ·
    exact .inl h2
   ·
    exact .inr ⟨e2, trans h1 h2⟩
theorem total : ∀ a b : T, less a b = true ∨ a = b ∨ less b a = true
 | [], [] => .inr (.inl rfl)
 | [], b :: y => .inl (nil_less b y)
 | a :: x, [] => .inr (.inr (nil_less a x))
 | a :: x, b :: y => by
  rw [less_iff, less_iff]
  rcases Nat.lt_trichotomy a.toNat b.toNat with h | h | h
  ·
   exact .inl (.inl h)
  ·
   have e := eq_nat.mpr h
   subst e
   rcases total x y with h | h | h
   ·
    exact .inl (.inr ⟨rfl, h⟩)
   ·
    exact .inr (.inl (by rw [h]))
   ·
    exact .inr (.inr (.inr ⟨rfl, h⟩))
  ·
   exact .inr (.inr (.inl h))
theorem asymm {a b : T} (h : less a b = true) : less b a = false := by
 rw [Bool.eq_false_iff]
 intro h2
 have := trans h h2
 rw [irrefl] at this
 cases this
theorem cmp_cases : ∀ a b : T, (less a b = true ∧ Lib.compareBytes a b = -1) ∨ (a = b ∧ Lib.compareBytes a b = 0) ∨ (less b a = true ∧ Lib.compareBytes a b = 1)
 | [], [] => .inr (.inl ⟨rfl, rfl⟩)
 | [], b :: y => .inl ⟨nil_less b y, rfl⟩
 | a :: x, [] => .inr (.inr ⟨nil_less a x, rfl⟩)
 | a :: x, b :: y => by
  unfold Lib.compareBytes
  rcases Nat.lt_trichotomy a.toNat b.toNat with h | h | h
  ·
   exact .inl ⟨(less_iff a b x y).mpr (.inl h), if_pos (lt_nat.mpr h)⟩
  ·
   have e := eq_nat.mpr h
   subst e
   rw [if_neg (fun h => by rw [lt_nat] at h; omega), if_neg (fun h => by rw [lt_nat] at h; omega)]
   rcases cmp_cases x y with ⟨h1, h2⟩ | ⟨h1, h2⟩ | ⟨h1, h2⟩
   ·
    exact .inl ⟨(less_iff a a x y).mpr (.inr ⟨rfl, h1⟩), h2⟩
   ·
    exact .inr (.inl ⟨by rw [h1], h2⟩)
   ·
    exact .inr (.inr ⟨(less_iff a a y x).mpr (.inr ⟨rfl, h1⟩), h2⟩)
  ·
   refine .inr (.inr ⟨(less_iff b a y x).mpr (.inl h), ?_⟩)
   rw [if_neg (fun h2 => by rw [lt_nat] at h2; omega), if_pos (lt_nat.mpr h)]
theorem cmp_neg (a b : T) : (Lib.compareBytes a b < 0) ↔ less a b = true := by
 rcases cmp_cases a b with ⟨h1, h2⟩ | ⟨h1, h2⟩ | ⟨h1, h2⟩
 ·
  rw [h1, h2]; simp
 ·
  subst h1
  rw [h2, irrefl]; simp
 ·
  rw [h2, asymm h1]; simp
end Go.Proofs.Ytklhjponikgkkaa.Ord
end
section
namespace Go.Proofs.Ytklhjponikgkkaa.St
open Go.Shelf Go.RowKit Go.Lib Go.Sort Go.Proofs Go.Proofs.Ytklhjponikgkkaa.X Go.Proofs.YtklhjponikgkkaaW.PrintWords Go.Proofs.YtklhjponikgkkaaW.PrintLast Go.Proofs.YtklhjponikgkkaaW.PrintMore
set_option linter.unusedSimpArgs false
set_option linter.unusedSectionVars false
set_option linter.unusedVariables false
abbrev keyT (x : S56) : List UInt8 := x.f1.data.toList
abbrev lessT : List UInt8 → List UInt8 → Bool := Go.Proofs.Ytklhjponikgkkaa.Ord.less
theorem ordT : Ord lessT := ⟨Go.Proofs.Ytklhjponikgkkaa.Ord.irrefl, fun _ _ _ h g => Go.Proofs.Ytklhjponikgkkaa.Ord.trans h g, Go.Proofs.Ytklhjponikgkkaa.Ord.total⟩
theorem cmpT (x y : S56) : cmp56 x y < 0 ↔ lessT (keyT x) (keyT y) = true := Go.Proofs.Ytklhjponikgkkaa.Ord.cmp_neg _ _
theorem gtr_ops : ∀ (t : TypeId) (a b : ByteArray), binOp .gtr t (.string a) (.string b) = pure (.bool !(Op.bytesLess a.toList b.toList || a.toList == b.toList)) := fun t a b => by simp [binOp, Op.stringOp]
theorem gtr_no {a b : ByteArray} (h : Op.bytesLess b.toList a.toList = false) : Op.bytesLess a.toList b.toList = true ∨ (Op.bytesLess a.toList b.toList = false ∧ (a.toList == b.toList) = true) := by
 rcases Go.Proofs.Ytklhjponikgkkaa.Ord.total a.toList b.toList with h1 | h1 | h1
 ·
  exact .inl h1
 ·
  refine .inr ⟨?_, by rw [h1]; exact beq_self_eq_true _⟩
  rw [h1]
  exact Go.Proofs.Ytklhjponikgkkaa.Ord.irrefl _
 ·
  have h2 : Op.bytesLess b.toList a.toList = true := h1
  rw [h2] at h
  cases h
theorem eg34 : ∀ args w, (callFunc 34 args).run Try.prog w = .ok (.enter 34 args) w := enters_of Try.func34 (by kernel_rfl) rfl
theorem insNil (w : World) : Calls Try.prog 59 #[.slice none 0 0, .int .i64 0, .int .i64 0, .func (.func 34) #[] #[]] w fun e w' => e = .returned (.tuple #[]) ∧ w' = w := by
 have t3 := Try.underlying3; have a3 := Try.isAgg3; have z3 := Try.sizeOf3; have v3 := Try.zeroValue3
 have t4 := Try.underlying4
 go_enter Try.func59, Try.ntmps59
 go_wp2
 go_loopg [8] 1 (fun kx s8 wr => s8 = .int .i64 1 ∧ wr = w)
 case atStart => exact ⟨rfl, rfl⟩
 case round =>
  obtain ⟨rfl, rfl⟩ := hrel
  go_wp2
  go_end0
  exact ⟨rfl, rfl⟩
theorem stableNil (w : World) : Calls Try.prog 52 #[.slice none 0 0, .int .i64 0, .func (.func 34) #[] #[]] w fun e w' => e = .returned (.tuple #[]) ∧ w' = w := by
 have t3 := Try.underlying3; have a3 := Try.isAgg3; have z3 := Try.sizeOf3; have v3 := Try.zeroValue3
 have t4 := Try.underlying4
 go_enter Try.func52, Try.ntmps52
 go_wp2
 go_loopg [7, 8] 1 (fun kx s7 s8 wr => s7 = .int .i64 0 ∧ s8 = .int .i64 20 ∧ Aside (wr = w))
 case atStart => exact ⟨rfl, rfl, (show Aside _ from rfl)⟩
 case round =>
  obtain ⟨rfl, rfl, HW⟩ := hrel
  go_wp2_with (go_at_call 59; refine (insNil _).mono ?_; rintro e w1 ⟨rfl, hw1⟩; have HW1 := asd (hw1.trans HW.out); clear hw1 HW)
  go_loopg [6] 1 (fun kx s6 wr => s6 = .int .i64 20 ∧ Aside (wr = w))
  case atStart => exact ⟨rfl, HW1⟩
  case round =>
   clear HW1
   obtain ⟨rfl, HW⟩ := hrel
   go_wp2
   go_end0
   exact ⟨rfl, HW.out⟩
theorem sorts (P0_ : Nat → Prop) (u : Value) (l : List S56) (w0 w : World) (hB : Below w0.heap.size w0 w) (ho : Kd.R k56 56 w w0.heap.size P0_ u l) (hl : l.length < 1152921504606846976) :
 Calls Try.prog 33 #[u, .func (.func 34) #[] #[]] w fun e w' => e = .returned (.tuple #[]) ∧ Kd.R k56 56 w' w0.heap.size (fun k_ => (P0_ k_ ∨ w.heap.size ≤ k_)) u (isort lessT keyT l) ∧ Below w0.heap.size w0 w' ∧ Kept w w' (fun k_ => P0_ k_) := by
 obtain ⟨hok, inner, how, hreps⟩ := ho
 have hflat := flat_of_reps hreps
 rcases how.2 with ⟨hnil, hz⟩ | ⟨g, cap, cur, hv, hbase, hb, h1, h2, h3, h4⟩
 ·
  subst hnil
  have hl0 : l = [] := List.eq_nil_of_length_eq_zero hz
  subst hl0
  have HB := Aside0.mk hB
  clear how hreps hflat hok hB hz hl
  have t3 := Try.underlying3
  go_enter Try.func33, Try.ntmps33
  go_wp2_with (go_at_call 52; refine (stableNil _).mono ?_; rintro e w1 ⟨rfl, rfl⟩)
  go_end0
  exact ⟨rfl, Kd.R_nil _ _ _ _ _, HB.out, Kept.refl _ _⟩
 ·
  subst hv
  have hd : l.toArray.toList = l := rfl
  have hH : HoldsK enc56 7 w g 0 l.toArray := holds_flat hb (by rw [flat_size, ← hflat]; exact h4)
  have R : RowK enc56 7 w g 0 l.toArray := ⟨fun _ => rfl, enc56_one, hH, (Array.getElem?_eq_some_iff.1 hb).1⟩
  have hc := stableSort 7 Try.sizeOf56 enc56 ordT cmp56 cmpT 34 #[] eg34 g 0 cap l.toArray w (cmp34 g 0 _ w) R (by simpa using hl)
  have hPg : P0_ g := hok g rfl
  have hg : g < w.heap.size := (Array.getElem?_eq_some_iff.1 hb).1
  have hsz : l.toArray.size = l.length := by simp
  rw [hsz] at hc
  have HC := asd (hc.mono (R' := fun e w' => e = .returned (.tuple #[]) ∧ Aside (Kd.R k56 56 w' w0.heap.size (fun k_ => (P0_ k_ ∨ w.heap.size ≤ k_)) (.slice (some ⟨g, 0, none⟩) l.length cap) (isort lessT keyT l) ∧ Below w0.heap.size w0 w' ∧ Kept w w' (fun k_ => P0_ k_))) (by
   rintro e w' ⟨rfl, d', s1, s2, n, os, rfl⟩
   have hr : d'.toList = isort lessT keyT l := isort_of ordT s1 s2
   have hlen : (isort lessT keyT l).length = l.length := isort_len l
   have hd' : d' = (isort lessT keyT l).toArray := by rw [← hr]
   subst hd'
   refine ⟨rfl, (show Aside _ from ⟨⟨fun k hk => .inl (hok k hk), (flatK enc56 7 (isort lessT keyT l).toArray).toList, ⟨?_, .inr ⟨g, cap, _, ?_, hbase, heap_flat _ hb, ?_, h2, ?_, ?_⟩⟩, ?_⟩, ?_, ?_⟩)⟩
   ·
    rw [Array.length_toList, flat_size]
    rfl
   ·
    rw [hlen]
   ·
    rw [hlen]
    exact h1
   ·
    unfold putCells
    rw [Array.size_mapIdx]
    exact h3
   ·
    have := take_flat cur (flatK enc56 7 (isort lessT keyT l).toArray) (by rw [flat_size, hlen, h3]; exact Nat.mul_le_mul_right _ h1)
    rw [flat_size] at this
    exact this
   ·
    exact reps_of_flat _ _ _ _
   ·
    exact Below.grown hB (grown_flat _) hB.size (fun k hk => by injection hk with hk; subst hk; exact hbase)
   ·
    refine ⟨(grown_flat (w := w) (g := g) (n := n) (os := os) _).size, fun i hi hn => (grown_flat (w := w) (g := g) (n := n) (os := os) _).block i hi (fun e => hn ?_)⟩
    injection e with e
    subst e
    exact hPg))
  clear hc R hH hd hflat hreps how hok hb h1 h2 h3 h4 hbase hB hPg hg hsz hl
  have t3 := Try.underlying3
  go_enter Try.func33, Try.ntmps33
  go_wp2_with (go_at_call 52; refine HC.out.mono ?_; rintro e w1 ⟨rfl, HR⟩)
  go_end0
  exact ⟨rfl, HR.out⟩
end Go.Proofs.Ytklhjponikgkkaa.St
end
