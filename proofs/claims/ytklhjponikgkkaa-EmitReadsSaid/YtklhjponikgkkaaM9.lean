/- Plain facts on what the printed functions compute, joined; each says its conditions. -/
import Derived.Sort.LotA
import Derived.Test.YtklhjponikgkkaaProg
import Derived.Shelf.SlSortCmp.ReverseRangeK
import Derived.Shelf.Abstract
import Derived.Test.YtklhjponikgkkaaM3
import Derived.Test.YtklhjponikgkkaaM2
section
namespace Go.Proofs.Ytklhjponikgkkaa.St
open Go.Sort
set_option linter.unusedSimpArgs false
set_option linter.unusedVariables false
set_option linter.unusedSectionVars false
variable {α K : Type}
structure Ord (lt : K → K → Bool) : Prop where
 irrefl : ∀ a, lt a a = false
 trans : ∀ a b c, lt a b = true → lt b c = true → lt a c = true
 tri : ∀ a b, lt a b = true ∨ a = b ∨ lt b a = true
theorem Ord.le_trans {lt : K → K → Bool} (o : Ord lt) {a b c : K} (h1 : lt b a = false) (h2 : lt c b = false) : lt c a = false := by
 rcases o.tri a b with h | h | h
 ·
  rcases o.tri b c with g | g | g
  ·
   cases e : lt c a with
   | false => rfl
   | true =>
    have := o.trans _ _ _ h g
    have := o.trans _ _ _ this e
    rw [o.irrefl] at this
    cases this
  ·
   subst g
   exact h1
  ·
   rw [g] at h2
   cases h2
 ·
  subst h
  exact h2
 ·
  rw [h] at h1
  cases h1
theorem Ord.asymm {lt : K → K → Bool} (o : Ord lt) {a b : K} (h : lt a b = true) : lt b a = false := by
 cases e : lt b a with
 | false => rfl
 | true =>
  have := o.trans _ _ _ h e
  rw [o.irrefl] at this
  cases this
theorem Ord.lt_le {lt : K → K → Bool} (o : Ord lt) {a b c : K} (h1 : lt a b = true) (h2 : lt c b = false) : lt a c = true := by
 rcases o.tri b c with h | h | h
 ·
  exact o.trans _ _ _ h1 h
 ·
  subst h
  exact h1
 ·
  rw [h] at h2
  cases h2
theorem Ord.le_lt {lt : K → K → Bool} (o : Ord lt) {a b c : K} (h1 : lt b a = false) (h2 : lt b c = true) : lt a c = true := by
 rcases o.tri a b with h | h | h
 ·
  exact o.trans _ _ _ h h2
 ·
  subst h
  exact h2
 ·
  rw [h] at h1
  cases h1
variable [DecidableEq K] (κ : α → K) (lt : K → K → Bool)
def Sorted (l : List α) : Prop := l.Pairwise fun x y => lt (κ y) (κ x) = false
def Same (l m : List α) : Prop := ∀ c, l.filter (fun x => κ x = c) = m.filter (fun x => κ x = c)
def Le (l m : List α) : Prop := ∀ x ∈ l, ∀ y ∈ m, lt (κ y) (κ x) = false
def Lt (l m : List α) : Prop := ∀ x ∈ l, ∀ y ∈ m, lt (κ x) (κ y) = true
variable {κ lt}
theorem Same.refl (l : List α) : Same κ l l := fun _ => rfl
theorem Same.symm {l m : List α} (h : Same κ l m) : Same κ m l := fun c => (h c).symm
theorem Same.trans {l m n : List α} (h : Same κ l m) (g : Same κ m n) : Same κ l n := fun c => (h c).trans (g c)
theorem Same.app {l m l' m' : List α} (h : Same κ l l') (g : Same κ m m') : Same κ (l ++ m) (l' ++ m') := fun c => by
 rw [List.filter_append, List.filter_append, h c, g c]
theorem Same.mem {l m : List α} (h : Same κ l m) {x : α} (hx : x ∈ l) : x ∈ m := by
 have : x ∈ l.filter (fun y => κ y = κ x) := List.mem_filter.2 ⟨hx, by simp⟩
 rw [h] at this
 exact (List.mem_filter.1 this).1
theorem Same.swap {l m : List α} (o : Ord lt) (h : Lt κ lt l m) : Same κ (l ++ m) (m ++ l) := fun c => by
 rw [List.filter_append, List.filter_append]
 by_cases h1 : l.filter (fun x => κ x = c) = []
 ·
  rw [h1, List.append_nil, List.nil_append]
 ·
  obtain ⟨x, hx⟩ := List.exists_mem_of_ne_nil _ h1
  have hx2 := List.mem_filter.1 hx
  have h2 : m.filter (fun x => κ x = c) = [] := by
   rw [List.filter_eq_nil_iff]
   intro y hy e
   have := h x hx2.1 y hy
   have e1 := of_decide_eq_true hx2.2
   have e2 := of_decide_eq_true e
   rw [e1, e2, o.irrefl] at this
   cases this
  rw [h2, List.append_nil, List.nil_append]
theorem sorted_app {l m : List α} : Sorted κ lt (l ++ m) ↔ Sorted κ lt l ∧ Sorted κ lt m ∧ Le κ lt l m := List.pairwise_append
theorem Le.of_lt {l m : List α} (o : Ord lt) (h : Lt κ lt l m) : Le κ lt l m := fun x hx y hy => o.asymm (h x hx y hy)
theorem Le.mono {l m l' m' : List α} (h : Le κ lt l m) (a : ∀ x ∈ l', x ∈ l) (b : ∀ x ∈ m', x ∈ m) : Le κ lt l' m' := fun x hx y hy => h x (a x hx) y (b y hy)
theorem Le.app_l {l l' m : List α} (h : Le κ lt l m) (g : Le κ lt l' m) : Le κ lt (l ++ l') m := fun x hx y hy => by
 rcases List.mem_append.1 hx with a | a
 ·
  exact h x a y hy
 ·
  exact g x a y hy
theorem Le.app_r {l m m' : List α} (h : Le κ lt l m) (g : Le κ lt l m') : Le κ lt l (m ++ m') := fun x hx y hy => by
 rcases List.mem_append.1 hy with a | a
 ·
  exact h x hx y a
 ·
  exact g x hx y a
theorem unique (o : Ord lt) : ∀ {l m : List α}, Sorted κ lt l → Sorted κ lt m → Same κ l m → l = m
 | [], [], _, _, _ => rfl
 | [], y :: m, _, _, h => absurd (h.symm.mem (List.mem_cons_self)) (by simp)
 | x :: l, [], _, _, h => absurd (h.mem (List.mem_cons_self)) (by simp)
 | x :: l, y :: m, s, t, h => by
  have s2 := List.pairwise_cons.1 s
  have t2 := List.pairwise_cons.1 t
  have hxy : κ x = κ y := by
   have hx := h.mem (x := x) List.mem_cons_self
   have hy := h.symm.mem (x := y) List.mem_cons_self
   have a : lt (κ x) (κ y) = false := by
    rcases List.mem_cons.1 hx with e | e
    ·
     rw [e, o.irrefl]
    ·
     exact t2.1 x e
   have b : lt (κ y) (κ x) = false := by
    rcases List.mem_cons.1 hy with e | e
    ·
     rw [e, o.irrefl]
    ·
     exact s2.1 y e
   rcases o.tri (κ x) (κ y) with c | c | c
   ·
    rw [c] at a
    cases a
   ·
    exact c
   ·
    rw [c] at b
    cases b
  have e := h (κ x)
  rw [List.filter_cons_of_pos (by simp), List.filter_cons_of_pos (by simp [hxy])] at e
  injection e with e1 e2
  subst e1
  congr 1
  refine unique o s2.2 t2.2 fun c => ?_
  have g := h c
  by_cases hc : κ x = c
  ·
   rw [List.filter_cons_of_pos (by simp [hc]), List.filter_cons_of_pos (by simp [hc])] at g
   injection g
  ·
   rw [List.filter_cons_of_neg (by simp [hc]), List.filter_cons_of_neg (by simp [hc])] at g
   exact g
def ins (lt : K → K → Bool) (κ : α → K) (x : α) : List α → List α
 | [] => [x]
 | y :: l => if lt (κ x) (κ y) = true then x :: y :: l else y :: ins lt κ x l
def isort (lt : K → K → Bool) (κ : α → K) (l : List α) : List α := l.foldl (fun a x => ins lt κ x a) []
theorem ins_mem {x : α} : ∀ {l : List α} {z : α}, z ∈ ins lt κ x l ↔ z = x ∨ z ∈ l
 | [], z => by simp [ins]
 | y :: l, z => by
  unfold ins
  split
  ·
   simp
  ·
   rw [List.mem_cons, ins_mem, List.mem_cons]
   constructor
   ·
    rintro (h | h | h)
    ·
     exact .inr (.inl h)
    ·
     exact .inl h
    ·
     exact .inr (.inr h)
   ·
    rintro (h | h | h)
    ·
     exact .inr (.inl h)
    ·
     exact .inl h
    ·
     exact .inr (.inr h)
theorem ins_sorted (o : Ord lt) {x : α} : ∀ {l : List α}, Sorted κ lt l → Sorted κ lt (ins lt κ x l)
 | [], _ => by simp [ins, Sorted]
 | y :: l, s => by
  have s2 := List.pairwise_cons.1 s
  unfold ins
  by_cases c : lt (κ x) (κ y) = true
  ·
   rw [if_pos c]
   refine List.pairwise_cons.2 ⟨fun z hz => ?_, s⟩
   rcases List.mem_cons.1 hz with e | e
   ·
    rw [e]
    exact o.asymm c
   ·
    exact o.le_trans (o.asymm c) (s2.1 z e)
  ·
   rw [if_neg c]
   refine List.pairwise_cons.2 ⟨fun z hz => ?_, ins_sorted o s2.2⟩
   rcases ins_mem.1 hz with e | e
   ·
    rw [e]
    exact Bool.eq_false_iff.2 c
   ·
    exact s2.1 z e
theorem ins_same (o : Ord lt) {x : α} : ∀ {l : List α}, Sorted κ lt l → Same κ (ins lt κ x l) (l ++ [x])
 | [], _ => Same.refl _
 | y :: l, s => by
  have s2 := List.pairwise_cons.1 s
  unfold ins
  by_cases c : lt (κ x) (κ y) = true
  ·
   rw [if_pos c]
   have : Lt κ lt [x] (y :: l) := fun a ha z hz => by
    rw [List.mem_singleton.1 ha]
    rcases List.mem_cons.1 hz with e | e
    ·
     rw [e]
     exact c
    ·
     exact o.lt_le c (s2.1 z e)
   exact Same.swap o this
  ·
   rw [if_neg c]
   exact Same.app (l := [y]) (l' := [y]) (Same.refl _) (ins_same o s2.2)
theorem isort_go (o : Ord lt) : ∀ (l a : List α), Sorted κ lt a → Sorted κ lt (l.foldl (fun a x => ins lt κ x a) a) ∧ Same κ (l.foldl (fun a x => ins lt κ x a) a) (a ++ l)
 | [], a, s => ⟨s, by rw [List.append_nil]; exact Same.refl _⟩
 | x :: l, a, s => by
  obtain ⟨h1, h2⟩ := isort_go o l (ins lt κ x a) (ins_sorted o s)
  refine ⟨h1, h2.trans ?_⟩
  have := (ins_same (x := x) o s).app (Same.refl l)
  rw [List.append_assoc] at this
  exact this
theorem isort_sorted (o : Ord lt) (l : List α) : Sorted κ lt (isort lt κ l) := (isort_go o l [] List.Pairwise.nil).1
theorem isort_same (o : Ord lt) (l : List α) : Same κ (isort lt κ l) l := (isort_go o l [] List.Pairwise.nil).2
theorem isort_of (o : Ord lt) {l m : List α} (s : Sorted κ lt m) (h : Same κ m l) : m = isort lt κ l := unique o s (isort_sorted o l) (h.trans (isort_same o l).symm)
theorem put_in (o : Ord lt) {a b : List α} {x : α} (s : Sorted κ lt (a ++ b)) (hb : Lt κ lt [x] b) (ha : Le κ lt a [x]) : Sorted κ lt (a ++ x :: b) ∧ Same κ (a ++ x :: b) (a ++ b ++ [x]) := by
 obtain ⟨s1, s2, s3⟩ := sorted_app.1 s
 constructor
 ·
  refine sorted_app.2 ⟨s1, List.pairwise_cons.2 ⟨fun z hz => o.asymm (hb x (List.mem_singleton.2 rfl) z hz), s2⟩, ?_⟩
  exact Le.app_r (m := [x]) ha s3
 ·
  rw [List.append_assoc]
  exact (Same.refl a).app (Same.swap o hb)
theorem put_out (o : Ord lt) {a b : List α} {x : α} (s : Sorted κ lt (a ++ b)) (ha : Lt κ lt a [x]) (hb : Le κ lt [x] b) : Sorted κ lt (a ++ x :: b) ∧ Same κ (a ++ x :: b) (x :: (a ++ b)) := by
 obtain ⟨s1, s2, s3⟩ := sorted_app.1 s
 constructor
 ·
  refine sorted_app.2 ⟨s1, List.pairwise_cons.2 ⟨fun z hz => hb x (List.mem_singleton.2 rfl) z hz, s2⟩, ?_⟩
  exact Le.app_r (m := [x]) (Le.of_lt o ha) s3
 ·
  have := (Same.swap o ha).app (Same.refl b)
  rw [List.append_assoc] at this
  exact this
theorem four (o : Ord lt) {x1 x2 y1 y2 s1 s2 : List α} (hx : Sorted κ lt (x1 ++ x2)) (hy : Sorted κ lt (y1 ++ y2)) (h12 : Le κ lt x1 y2) (h21 : Lt κ lt y1 x2)
 (p1 : Sorted κ lt s1) (q1 : Same κ s1 (x1 ++ y1)) (p2 : Sorted κ lt s2) (q2 : Same κ s2 (x2 ++ y2)) : Sorted κ lt (s1 ++ s2) ∧ Same κ (s1 ++ s2) (x1 ++ x2 ++ (y1 ++ y2)) := by
 obtain ⟨_, _, a⟩ := sorted_app.1 hx
 obtain ⟨_, _, b⟩ := sorted_app.1 hy
 constructor
 ·
  refine sorted_app.2 ⟨p1, p2, ?_⟩
  refine Le.mono (l := x1 ++ y1) (m := x2 ++ y2) ?_ (fun x h => q1.mem h) (fun x h => q2.mem h)
  exact Le.app_l (Le.app_r a h12) (Le.app_r (Le.of_lt o h21) b)
 ·
  have h := (Same.refl (κ := κ) x1).app ((Same.swap o h21).app (Same.refl y2))
  have g := q1.app q2
  simp only [List.append_assoc] at h g ⊢
  exact g.trans h
theorem swp_list [Inhabited α] {p q r : List α} {x y : α} {d : Array α} (h : d.toList = p ++ x :: (q ++ y :: r)) : (swp d p.length (p.length + 1 + q.length)).toList = p ++ y :: (q ++ x :: r) := by
 have e : d = (p ++ x :: (q ++ y :: r)).toArray := by rw [← h]
 subst e
 unfold swp
 have h1 : (p ++ x :: (q ++ y :: r)).toArray[p.length]! = x := by simp
 have h2 : (p ++ x :: (q ++ y :: r)).toArray[p.length + 1 + q.length]! = y := by
  rw [show p.length + 1 + q.length = p.length + (1 + q.length) by omega]
  simp [Nat.add_comm 1]
 rw [h1, h2]
 simp only [List.setIfInBounds_toArray]
 rw [List.set_append_right _ _ (by omega), Nat.sub_self, List.set_cons_zero, List.set_append_right _ _ (by omega), show p.length + 1 + q.length - p.length = q.length + 1 by omega, List.set_cons_succ, List.set_append_right _ _ (by omega), Nat.sub_self, List.set_cons_zero]
end Go.Proofs.Ytklhjponikgkkaa.St
end
section
namespace Go.Proofs.Ytklhjponikgkkaa.St
open Go.Shelf Go.RowKit Go.Lib Go.Sort Go.Proofs
set_option linter.unusedSimpArgs false
set_option linter.unusedSectionVars false
set_option linter.unusedVariables false
variable {α : Type} [Inhabited α]
def swaps (d : Array α) (a b : Nat) : Nat → Array α
 | 0 => d
 | n + 1 => swp (swaps d a b n) (a + n) (b + n)
theorem swaps_size (d : Array α) (a b n : Nat) : (swaps d a b n).size = d.size := by
 induction n with
 | zero => rfl
 | succ n ih => rw [swaps, size_swp, ih]
set_option maxHeartbeats 4000000 in
set_option maxRecDepth 1000000 in
theorem swapRange (k : Nat) (zE : ∀ w, (Go.sizeOf 56).run Try.prog w = .ok k w) (enc : α → List Value) (g : Nat) (cb : Array Value) (blk off cap a b n : Nat) (d0 d : Array α) (w0 w : World)
 (R : RowK enc k w0 blk off d0) (hs : d0.size = d.size) (S : SWK enc k w0 blk off d w) (hab : a + n ≤ b) (hb : b + n ≤ d.size) (hsz : d.size < 4611686018427387904) :
 Calls Try.prog 63 #[.slice (some ⟨blk, off, none⟩) d.size cap, .int .i64 a, .int .i64 b, .int .i64 n, .func (.func g) #[] cb] w fun e w' => e = .returned (.tuple #[]) ∧ SWK enc k w0 blk off (swaps d a b n) w' := by
 have mixed : Try.prog.follows .mixedOrders = true := by kernel_rfl
 have t3 := Try.underlying3; have a3 := Try.isAgg3; have z3 := Try.sizeOf3; have v3 := Try.zeroValue3
 have t4 := Try.underlying4
 have t36 := Try.underlying36; have a36 := Try.isAgg36; have z36 := Try.sizeOf36; have v36 := Try.zeroValue36
 have aE := Try.isAgg56
 have S0 : Aside (SWK enc k w0 blk off d w) := S
 clear S
 go_enter Try.func63, Try.ntmps63
 go_wp2
 go_loopg [10] n (fun kx s10 wr => ∃ (i : Nat), s10 = .int .i64 i ∧ i ≤ n ∧ n - i ≤ kx ∧ Aside (SWK enc k w0 blk off (swaps d a b i) wr))
 case atStart => exact ⟨0, rfl, Nat.zero_le _, by omega, S0⟩
 case round =>
  clear S0
  obtain ⟨i, rfl, hin, hkx, S1⟩ := hrel
  by_cases hlt : (i : Int) < (n : Int)
  ·
   have hds := swaps_size d a b i
   obtain ⟨dk, hdk⟩ : ∃ dk, dk = swaps d a b i := ⟨_, rfl⟩
   rw [← hdk] at S1 hds
   go_wp2_with fail
   have ea : (((a : Int) + (i : Int))).toNat = a + i := by omega
   have pa : (0 : Int) ≤ ((a : Int) + (i : Int)) := by omega
   have ba : ((a : Int) + (i : Int)) < (d.size : Int) := by omega
   have ra : IntKind.i64.wrap ((a : Int) + (i : Int)) = ((a : Int) + (i : Int)) := by rw [IntKind.wrap_i64]; omega
   have eb : (((b : Int) + (i : Int))).toNat = b + i := by omega
   have pb : (0 : Int) ≤ ((b : Int) + (i : Int)) := by omega
   have bb : ((b : Int) + (i : Int)) < (d.size : Int) := by omega
   have rb : IntKind.i64.wrap ((b : Int) + (i : Int)) = ((b : Int) + (i : Int)) := by rw [IntKind.wrap_i64]; omega
   have S2 : Aside (SWK enc k w0 blk off (swp dk (a + i) (b + i)) ((wr.drew.setCells blk (off + (a + i) * k) (enc dk[b + i]!)).setCells blk (off + (b + i) * k) (enc dk[a + i]!))) := S1.out.swapped R (a + i) (b + i) (by omega) (by omega)
   have l44a := S1.out.ld1 R (by omega) Try.prog (a + i) (by omega)
   have l44b := S1.out.ld1 R (by omega) Try.prog (b + i) (by omega)
   have s44a := S1.out.st1 R (by omega) Try.prog (a + i) (by omega) dk[b + i]!
   have s44b := S1.out.st2 R (by omega) Try.prog (a + i) (b + i) (by omega) (by omega) dk[b + i]! dk[a + i]!
   have n44a : (enc dk[a + i]!).length = k := R.hk _
   have n44b : (enc dk[b + i]!).length = k := R.hk _
   generalize enc dk[a + i]! = cI44 at S2 l44a s44b n44a
   generalize enc dk[b + i]! = cJ44 at S2 l44b s44a s44b n44b
   clear S1
   go_big_region_o
   clear l44a l44b s44a s44b
   generalize (wr.drew.setCells blk (off + (a + i) * k) cJ44).setCells blk (off + (b + i) * k) cI44 = w2 at S2 ⊢
   go_wp2
   go_roundg (n - (i + 1))
   case measure => omega
   case rel => exact ⟨i + 1, by go_num, by omega, Nat.le_refl _, by rw [swaps, ← hdk]; exact S2⟩
  ·
   go_wp2
   go_end0
   have : i = n := by omega
   subst this
   exact ⟨rfl, S1.out⟩
end Go.Proofs.Ytklhjponikgkkaa.St
end
section
namespace Go.Proofs.Ytklhjponikgkkaa.St
open Go.Shelf Go.RowKit Go.Lib Go.Sort Go.Proofs
set_option linter.unusedSimpArgs false
set_option linter.unusedSectionVars false
set_option linter.unusedVariables false
variable {α : Type} [Inhabited α]
theorem swaps_list : ∀ (n : Nat) {A X M Y B : List α} {d : Array α}, d.toList = A ++ (X ++ (M ++ (Y ++ B))) → X.length = n → Y.length = n → (swaps d A.length (A.length + X.length + M.length) n).toList = A ++ (Y ++ (M ++ (X ++ B)))
 | 0, A, X, M, Y, B, d, h, hx, hy => by
  rw [List.eq_nil_of_length_eq_zero hx, List.eq_nil_of_length_eq_zero hy] at h ⊢
  exact h
 | n + 1, A, X, M, Y, B, d, h, hx, hy => by
  obtain ⟨X, x, rfl⟩ : ∃ X' x, X = X' ++ [x] := by
   rcases List.eq_nil_or_concat X with e | ⟨l, b, e⟩
   ·
    rw [e] at hx
    cases hx
   ·
    exact ⟨l, b, by rw [e, List.concat_eq_append]⟩
  obtain ⟨Y, y, rfl⟩ : ∃ Y' y, Y = Y' ++ [y] := by
   rcases List.eq_nil_or_concat Y with e | ⟨l, b, e⟩
   ·
    rw [e] at hy
    cases hy
   ·
    exact ⟨l, b, by rw [e, List.concat_eq_append]⟩
  rw [List.length_append, List.length_singleton] at hx hy
  have ih := swaps_list n (A := A) (X := X) (M := x :: M) (Y := Y) (B := y :: B) (d := d) (by rw [h]; simp) (by omega) (by omega)
  rw [swaps]
  have e1 : A.length + (X ++ [x]).length + M.length = A.length + X.length + (x :: M).length := by
   simp only [List.length_append, List.length_cons, List.length_nil]
   omega
  rw [e1]
  have h2 := swp_list (p := A ++ Y) (q := M ++ X) (r := B) (x := x) (y := y) (d := swaps d A.length (A.length + X.length + (x :: M).length) n) (by rw [ih]; simp)
  have e2 : (A ++ Y).length = A.length + n := by rw [List.length_append]; omega
  have e3 : (A ++ Y).length + 1 + (M ++ X).length = A.length + X.length + (x :: M).length + n := by
   simp only [List.length_append, List.length_cons]
   omega
  rw [e3, e2] at h2
  rw [h2]
  simp
set_option maxHeartbeats 4000000 in
set_option maxRecDepth 1000000 in
theorem rotate (k : Nat) (zE : ∀ w, (Go.sizeOf 56).run Try.prog w = .ok k w) (enc : α → List Value) (g : Nat) (cb : Array Value) (blk off cap a m b : Nat) (d0 d : Array α) (w0 w : World)
 (R : RowK enc k w0 blk off d0) (hs : d0.size = d.size) (S : SWK enc k w0 blk off d w) (A X Y B : List α) (hd : d.toList = A ++ (X ++ (Y ++ B))) (ha : A.length = a) (hm : a + X.length = m) (hb : m + Y.length = b)
 (hX : 0 < X.length) (hY : 0 < Y.length) (hsz : d.size < 4611686018427387904) :
 Calls Try.prog 62 #[.slice (some ⟨blk, off, none⟩) d.size cap, .int .i64 a, .int .i64 m, .int .i64 b, .func (.func g) #[] cb] w fun e w' => e = .returned (.tuple #[]) ∧ ∃ d' : Array α, d'.toList = A ++ (Y ++ (X ++ B)) ∧ SWK enc k w0 blk off d' w' := by
 have t3 := Try.underlying3; have a3 := Try.isAgg3; have z3 := Try.sizeOf3; have v3 := Try.zeroValue3
 have t4 := Try.underlying4
 have S0 : Aside (SWK enc k w0 blk off d w) := S
 have hlen : d.size = A.length + (X.length + (Y.length + B.length)) := by rw [← Array.length_toList, hd]; simp only [List.length_append]
 have hbl : b ≤ d.size := by omega
 have ham : a ≤ m := by omega
 have hmb : m ≤ b := by omega
 have HX : Aside (X.length = m - a ∧ Y.length = b - m ∧ a = A.length ∧ a < m ∧ m < b ∧ d0.size = d.size) := ⟨by omega, by omega, ha.symm, by omega, by omega, hs⟩
 have HD : Aside (d.toList = A ++ (X ++ (Y ++ B))) := hd
 clear S hd hlen hm hb hX hY ha hs
 go_enter Try.func62, Try.ntmps62
 go_wp2
 go_loopg [10, 11] (b - a) (fun kx s10 s11 wr => ∃ (i j : Nat), s10 = .int .i64 i ∧ s11 = .int .i64 j ∧ i + j ≤ kx ∧ i ≤ m ∧ m + j ≤ b ∧ 0 < i ∧ 0 < j ∧
  Aside (∃ (P X' Y' S : List α) (dk : Array α), X'.length = i ∧ Y'.length = j ∧ A.length + P.length + i = m ∧ dk.size = d.size ∧ dk.toList = A ++ (P ++ (X' ++ (Y' ++ (S ++ B)))) ∧ P ++ (Y' ++ (X' ++ S)) = Y ++ X ∧ SWK enc k w0 blk off dk wr))
 case atStart => exact ⟨m - a, b - m, by go_num, by go_num, by omega, by omega, by omega, by have := HX.out; omega, by have := HX.out; omega, (show Aside _ from ⟨[], X, Y, [], d, HX.out.1, HX.out.2.1, by have := HX.out; simp only [List.length_nil]; omega, rfl, by rw [HD.out]; simp, by simp, S0.out⟩)⟩
 case round =>
  clear S0 HD
  obtain ⟨i, j, rfl, rfl, hkx, him, hjb, h1, h2, HR⟩ := hrel
  rcases Nat.lt_trichotomy i j with hc | hc | hc
  ·
   have c1 : ((i : Int) != (j : Int)) = true := bne_iff_ne.2 (by omega)
   have c2 : ¬ (i : Int) > (j : Int) := by omega
   have HC : Aside (Calls Try.prog 63 #[.slice (some ⟨blk, off, none⟩) d.size cap, .int .i64 ((m : Int) - (i : Int)), .int .i64 ((m : Int) + (j : Int) - (i : Int)), .int .i64 i, .func (.func g) #[] cb] wr fun e w' => e = .returned (.tuple #[]) ∧
    Aside (∃ (P X' Y' S : List α) (dk : Array α), X'.length = i ∧ Y'.length = j - i ∧ A.length + P.length + i = m ∧ dk.size = d.size ∧ dk.toList = A ++ (P ++ (X' ++ (Y' ++ (S ++ B)))) ∧ P ++ (Y' ++ (X' ++ S)) = Y ++ X ∧ SWK enc k w0 blk off dk w')) := by
    obtain ⟨P, X', Y', S, dk, hx, hy, hp, hds, hdk, he, hS⟩ := HR.out
    have hX := HX.out
    obtain ⟨Y1, Y2, hy0, hy1, hy2⟩ : ∃ Y1 Y2, Y' = Y1 ++ Y2 ∧ Y1.length = j - i ∧ Y2.length = i := ⟨Y'.take (j - i), Y'.drop (j - i), (List.take_append_drop _ _).symm, by rw [List.length_take]; omega, by rw [List.length_drop]; omega⟩
    have hl := swaps_list i (A := A ++ P) (X := X') (M := Y1) (Y := Y2) (B := S ++ B) (d := dk) (by rw [hdk, hy0]; simp) hx hy2
    have hap : (A ++ P).length = A.length + P.length := List.length_append
    have h3 := swapRange k zE enc g cb blk off cap (A ++ P).length ((A ++ P).length + X'.length + Y1.length) i d0 dk w0 wr R (by omega) hS (by omega) (by omega) (by omega)
    rw [show (((A ++ P).length : Nat) : Int) = (m : Int) - (i : Int) by omega, show (((A ++ P).length + X'.length + Y1.length : Nat) : Int) = (m : Int) + (j : Int) - (i : Int) by omega, hds] at h3
    refine h3.mono ?_
    rintro e w1 ⟨rfl, S2⟩
    refine ⟨rfl, (show Aside _ from ⟨P, Y2, Y1, X' ++ S, _, hy2, hy1, by omega, by rw [swaps_size]; exact hds, ?_, ?_, S2⟩)⟩
    ·
     rw [hl]
     simp
    ·
     rw [← he, hy0]
     simp
   clear HR
   go_wp2_with (go_at_call 63; refine HC.out.mono ?_; clear HC; rintro e w1 ⟨rfl, HR⟩)
   go_roundg (i + (j - i))
   case measure => omega
   case rel => exact ⟨i, j - i, by first | rfl | go_num, by go_num, by omega, by omega, by omega, by omega, by omega, HR⟩
  ·
   subst hc
   have c1 : ((i : Int) != (i : Int)) = false := bne_eq_false_iff_eq.2 rfl
   have HC : Aside (Calls Try.prog 63 #[.slice (some ⟨blk, off, none⟩) d.size cap, .int .i64 ((m : Int) - (i : Int)), .int .i64 m, .int .i64 i, .func (.func g) #[] cb] wr fun e w' => e = .returned (.tuple #[]) ∧
    Aside (∃ d' : Array α, d'.toList = A ++ (Y ++ (X ++ B)) ∧ SWK enc k w0 blk off d' w')) := by
    obtain ⟨P, X', Y', S, dk, hx, hy, hp, hds, hdk, he, hS⟩ := HR.out
    have hX := HX.out
    have hl := swaps_list i (A := A ++ P) (X := X') (M := []) (Y := Y') (B := S ++ B) (d := dk) (by rw [hdk]; simp) hx (by omega)
    have hap : (A ++ P).length = A.length + P.length := List.length_append
    rw [List.length_nil, Nat.add_zero] at hl
    have h3 := swapRange k zE enc g cb blk off cap (A ++ P).length ((A ++ P).length + X'.length) i d0 dk w0 wr R (by omega) hS (by omega) (by omega) (by omega)
    rw [show (((A ++ P).length : Nat) : Int) = (m : Int) - (i : Int) by omega, show (((A ++ P).length + X'.length : Nat) : Int) = (m : Int) by omega, hds] at h3
    refine h3.mono ?_
    rintro e w1 ⟨rfl, S2⟩
    refine ⟨rfl, (show Aside _ from ⟨_, ?_, S2⟩)⟩
    rw [hl, ← List.append_assoc Y X B, ← he]
    simp
   clear HR
   go_wp2_with (go_at_call 63; refine HC.out.mono ?_; clear HC; rintro e w1 ⟨rfl, HR⟩)
   go_end0
   exact ⟨rfl, HR.out⟩
  ·
   have c1 : ((i : Int) != (j : Int)) = true := bne_iff_ne.2 (by omega)
   have c2 : (i : Int) > (j : Int) := by omega
   have HC : Aside (Calls Try.prog 63 #[.slice (some ⟨blk, off, none⟩) d.size cap, .int .i64 ((m : Int) - (i : Int)), .int .i64 m, .int .i64 j, .func (.func g) #[] cb] wr fun e w' => e = .returned (.tuple #[]) ∧
    Aside (∃ (P X' Y' S : List α) (dk : Array α), X'.length = i - j ∧ Y'.length = j ∧ A.length + P.length + (i - j) = m ∧ dk.size = d.size ∧ dk.toList = A ++ (P ++ (X' ++ (Y' ++ (S ++ B)))) ∧ P ++ (Y' ++ (X' ++ S)) = Y ++ X ∧ SWK enc k w0 blk off dk w')) := by
    obtain ⟨P, X', Y', S, dk, hx, hy, hp, hds, hdk, he, hS⟩ := HR.out
    have hX := HX.out
    obtain ⟨X1, X2, hx0, hx1, hx2⟩ : ∃ X1 X2, X' = X1 ++ X2 ∧ X1.length = j ∧ X2.length = i - j := ⟨X'.take j, X'.drop j, (List.take_append_drop _ _).symm, by rw [List.length_take]; omega, by rw [List.length_drop]; omega⟩
    have hl := swaps_list j (A := A ++ P) (X := X1) (M := X2) (Y := Y') (B := S ++ B) (d := dk) (by rw [hdk, hx0]; simp) hx1 hy
    have hap : (A ++ P).length = A.length + P.length := List.length_append
    have h3 := swapRange k zE enc g cb blk off cap (A ++ P).length ((A ++ P).length + X1.length + X2.length) j d0 dk w0 wr R (by omega) hS (by omega) (by omega) (by omega)
    rw [show (((A ++ P).length : Nat) : Int) = (m : Int) - (i : Int) by omega, show (((A ++ P).length + X1.length + X2.length : Nat) : Int) = (m : Int) by omega, hds] at h3
    refine h3.mono ?_
    rintro e w1 ⟨rfl, S2⟩
    refine ⟨rfl, (show Aside _ from ⟨P ++ Y', X2, X1, S, _, hx2, hx1, by rw [List.length_append]; omega, by rw [swaps_size]; exact hds, ?_, ?_, S2⟩)⟩
    ·
     rw [hl]
     simp
    ·
     rw [← he, hx0]
     simp
   clear HR
   go_wp2_with (go_at_call 63; refine HC.out.mono ?_; clear HC; rintro e w1 ⟨rfl, HR⟩)
   go_roundg (i - j + j)
   case measure => omega
   case rel => exact ⟨i - j, j, by go_num, by first | rfl | go_num, by omega, by omega, by omega, by omega, by omega, HR⟩
end Go.Proofs.Ytklhjponikgkkaa.St
end
section
namespace Go.Proofs.Ytklhjponikgkkaa.St
open Go.Shelf Go.RowKit Go.Lib Go.Sort Go.Proofs
set_option linter.unusedSimpArgs false
set_option linter.unusedVariables false
set_option linter.unusedSectionVars false
variable {α K : Type} [Inhabited α] [DecidableEq K]
theorem get_mid {d : Array α} {p r : List α} {x : α} (h : d.toList = p ++ x :: r) : d[p.length]! = x := by
 have e : d = (p ++ x :: r).toArray := by rw [← h]
 subst e
 simp
theorem snoc_of {P : List α} (h : 0 < P.length) : ∃ P' y, P = P' ++ [y] := by
 rcases List.eq_nil_or_concat P with e | ⟨l, b, e⟩
 ·
  rw [e] at h
  cases h
 ·
  exact ⟨l, b, by rw [e, List.concat_eq_append]⟩
set_option maxHeartbeats 8000000 in
set_option maxRecDepth 1000000 in
theorem insertSort (k : Nat) (zE : ∀ w, (Go.sizeOf 56).run Try.prog w = .ok k w) (enc : α → List Value) {κ : α → K} {lt : K → K → Bool} (o : Ord lt) (cf : α → α → Int) (hcf : ∀ x y, cf x y < 0 ↔ lt (κ x) (κ y) = true) (g : Nat) (cb : Array Value)
 (eg : ∀ args w, (callFunc g args).run Try.prog w = .ok (.enter g args) w) (blk off cap a b : Nat) (d0 d : Array α) (w0 w : World) (hcmp : CmpLays Try.prog g cb enc k cf blk off d0.size w0)
 (R : RowK enc k w0 blk off d0) (hs : d0.size = d.size) (S : SWK enc k w0 blk off d w) (A T B : List α) (hd : d.toList = A ++ (T ++ B)) (ha : A.length = a) (hb : a + T.length = b) (hsz : d.size < 4611686018427387904) :
 Calls Try.prog 59 #[.slice (some ⟨blk, off, none⟩) d.size cap, .int .i64 a, .int .i64 b, .func (.func g) #[] cb] w fun e w' => e = .returned (.tuple #[]) ∧ ∃ (d' : Array α) (T' : List α), d'.toList = A ++ (T' ++ B) ∧ Sorted κ lt T' ∧ Same κ T' T ∧ SWK enc k w0 blk off d' w' := by
 have mixed : Try.prog.follows .mixedOrders = true := by kernel_rfl
 have t3 := Try.underlying3; have a3 := Try.isAgg3; have z3 := Try.sizeOf3; have v3 := Try.zeroValue3
 have t4 := Try.underlying4; have a4 := Try.isAgg4; have z4 := Try.sizeOf4; have v4 := Try.zeroValue4
 have t36 := Try.underlying36; have a36 := Try.isAgg36; have z36 := Try.sizeOf36; have v36 := Try.zeroValue36
 have t81 := Try.underlying81; have a81 := Try.isAgg81; have z81 := Try.sizeOf81; have v81 := Try.zeroValue81
 have aE := Try.isAgg56
 have HC : Aside (CmpLays Try.prog g cb enc k cf blk off d0.size w0) := hcmp
 have HCF : Aside (∀ x y, cf x y < 0 ↔ lt (κ x) (κ y) = true) := hcf
 have hlen : d.size = A.length + (T.length + B.length) := by rw [← Array.length_toList, hd]; simp only [List.length_append]
 have hbl : b ≤ d.size := by omega
 have hab : a ≤ b := by omega
 have HX : Aside (A.length = a ∧ a + T.length = b ∧ d0.size = d.size) := ⟨ha, hb, hs⟩
 have H0 : Aside (∃ (dk : Array α) (T1 T2 : List α), dk.size = d.size ∧ dk.toList = A ++ (T1 ++ (T2 ++ B)) ∧ a + T1.length = min (a + 1) b ∧ min (a + 1) b + T2.length = b ∧ Sorted κ lt T1 ∧ Same κ (T1 ++ T2) T ∧ SWK enc k w0 blk off dk w) := by
  cases T with
  | nil => exact ⟨d, [], [], rfl, by rw [hd]; rfl, by rw [List.length_nil] at hb ⊢; omega, by rw [List.length_nil] at hb ⊢; omega, List.Pairwise.nil, Same.refl _, S⟩
  | cons x T => exact ⟨d, [x], T, rfl, by rw [hd]; rfl, by rw [List.length_cons] at hb; rw [List.length_singleton]; omega, by rw [List.length_cons] at hb; omega, List.pairwise_singleton _ _, Same.refl _, S⟩
 clear S hd hlen ha hb hs hcmp hcf
 go_enter Try.func59, Try.ntmps59
 go_wp2
 go_loopg [8] (b - a) (fun g1 s8 wr => ∃ (i : Nat), s8 = .int .i64 i ∧ a < i ∧ i ≤ b + 1 ∧ b + 1 - i ≤ g1 + 1 ∧
  Aside (∃ (dk : Array α) (T1 T2 : List α), dk.size = d.size ∧ dk.toList = A ++ (T1 ++ (T2 ++ B)) ∧ a + T1.length = min i b ∧ min i b + T2.length = b ∧ Sorted κ lt T1 ∧ Same κ (T1 ++ T2) T ∧ SWK enc k w0 blk off dk wr))
 case atStart => exact ⟨a + 1, by go_num, by omega, by omega, by omega, H0⟩
 case round =>
  clear H0
  obtain ⟨i, rfl, hai, hib, hg1, HR⟩ := hrel
  by_cases hlt : i < b
  ·
   have hltz : (i : Int) < (b : Int) := by omega
   have HI : Aside (∃ (dk : Array α) (P Q T2 : List α) (x : α), dk.size = d.size ∧ dk.toList = A ++ (P ++ (x :: (Q ++ (T2 ++ B)))) ∧ a + P.length = i ∧ a + P.length + Q.length = i ∧ i + 1 + T2.length = b ∧ Sorted κ lt (P ++ Q) ∧ Lt κ lt [x] Q ∧ Same κ (P ++ Q ++ x :: T2) T ∧ SWK enc k w0 blk off dk wr) := by
    obtain ⟨dk, T1, T2, h1, h2, h3, h4, h5, h6, h7⟩ := HR.out
    rw [Nat.min_eq_left (by omega)] at h3 h4
    cases T2 with
    | nil => rw [List.length_nil] at h4; omega
    | cons x T2 => exact ⟨dk, T1, [], T2, x, h1, by rw [h2]; simp, h3, by rw [List.length_nil]; omega, by rw [List.length_cons] at h4; omega, by rw [List.append_nil]; exact h5, (fun _ _ y hy => absurd hy (by simp)), by rw [List.append_nil]; exact h6, h7⟩
   clear HR
   go_wp2
   go_loopg [9] i (fun g2 s9 wr => ∃ (j : Nat), s9 = .int .i64 j ∧ a ≤ j ∧ j ≤ i ∧ j ≤ g2 ∧
    Aside (∃ (dk : Array α) (P Q T2 : List α) (x : α), dk.size = d.size ∧ dk.toList = A ++ (P ++ (x :: (Q ++ (T2 ++ B)))) ∧ a + P.length = j ∧ a + P.length + Q.length = i ∧ i + 1 + T2.length = b ∧ Sorted κ lt (P ++ Q) ∧ Lt κ lt [x] Q ∧ Same κ (P ++ Q ++ x :: T2) T ∧ SWK enc k w0 blk off dk wr))
   case atStart => exact ⟨i, rfl, by omega, Nat.le_refl _, Nat.le_refl _, HI⟩
   case round =>
    clear HI
    obtain ⟨j, rfl, haj, hji, hg2, HI⟩ := hrel
    have OUT : Aside (∀ W', (∃ (dk : Array α) (P Q T2 : List α) (x : α), dk.size = d.size ∧ dk.toList = A ++ (P ++ (x :: (Q ++ (T2 ++ B)))) ∧ a + P.length + Q.length = i ∧ i + 1 + T2.length = b ∧ Sorted κ lt (P ++ Q) ∧ Lt κ lt [x] Q ∧ Le κ lt P [x] ∧ Same κ (P ++ Q ++ x :: T2) T ∧ SWK enc k w0 blk off dk W') →
     Aside (∃ (dk : Array α) (T1 T2 : List α), dk.size = d.size ∧ dk.toList = A ++ (T1 ++ (T2 ++ B)) ∧ a + T1.length = min (i + 1) b ∧ min (i + 1) b + T2.length = b ∧ Sorted κ lt T1 ∧ Same κ (T1 ++ T2) T ∧ SWK enc k w0 blk off dk W')) := by
     rintro W' ⟨dk, P, Q, T2, x, h1, h2, h3, h4, h5, h6, h7, h8, h9⟩
     obtain ⟨p1, p2⟩ := put_in o h5 h6 h7
     refine ⟨dk, P ++ x :: Q, T2, h1, by rw [h2]; simp, by rw [List.length_append, List.length_cons]; omega, by omega, p1, ?_, h9⟩
     have := p2.app (Same.refl T2)
     refine this.trans ?_
     simp only [List.append_assoc, List.singleton_append, List.nil_append, List.cons_append] at h8 ⊢
     exact h8
    by_cases hja : a < j
    ·
     obtain ⟨jp, rfl⟩ : ∃ jp, j = jp + 1 := ⟨j - 1, by omega⟩
     obtain ⟨dk, P, Q, T2, x, h1, h2, h3, h4, h5, h6, h7, h8, h9⟩ := HI.out
     clear HI
     have hA := HX.out
     obtain ⟨P, y, rfl⟩ := snoc_of (P := P) (by omega)
     rw [List.length_append, List.length_singleton] at h3 h4
     have hx : dk[jp + 1]! = x := by
      have := get_mid (d := dk) (p := A ++ (P ++ [y])) (r := Q ++ (T2 ++ B)) (x := x) (by rw [h2]; simp)
      rwa [show (A ++ (P ++ [y])).length = jp + 1 by simp only [List.length_append, List.length_singleton]; omega] at this
     have hy : dk[jp]! = y := by
      have := get_mid (d := dk) (p := A ++ P) (r := x :: (Q ++ (T2 ++ B))) (x := y) (by rw [h2]; simp)
      rwa [show (A ++ P).length = jp by simp only [List.length_append]; omega] at this
     have hsw : (swp dk (jp + 1) jp).toList = A ++ (P ++ (x :: (y :: Q ++ (T2 ++ B)))) := by
      have e : swp dk (jp + 1) jp = swp dk jp (jp + 1) := by
       apply Array.ext
       ·
        rw [size_swp, size_swp]
       ·
        intro t h1 h2
        have a1 := swp_get dk (i := jp + 1) (j := jp) (by omega) (by omega) t
        have a2 := swp_get dk (i := jp) (j := jp + 1) (by omega) (by omega) t
        rw [size_swp] at h1
        have b1 : (swp dk (jp + 1) jp)[t]! = (swp dk (jp + 1) jp)[t]'(by rw [size_swp]; exact h1) := getElem!_pos _ _ _
        have b2 : (swp dk jp (jp + 1))[t]! = (swp dk jp (jp + 1))[t]'(by rw [size_swp]; exact h1) := getElem!_pos _ _ _
        rw [← b1, ← b2, a1, a2]
        by_cases c1 : t = jp
        ·
         subst c1
         simp
        ·
         by_cases c2 : t = jp + 1
         ·
          subst c2
          simp
         ·
          simp [c1, c2]
      have := swp_list (p := A ++ P) (q := []) (r := Q ++ (T2 ++ B)) (x := y) (y := x) (d := dk) (by rw [h2]; simp)
      rw [show (A ++ P).length = jp by simp only [List.length_append]; omega, List.length_nil, Nat.add_zero] at this
      rw [e, this]
      simp
     have S1 : Aside (SWK enc k w0 blk off dk wr) := h9
     have hdsz : dk.size = d.size := h1
     have YES : Aside (cf x y < 0 → ∀ W', SWK enc k w0 blk off (swp dk (jp + 1) jp) W' → Aside (∃ (dk : Array α) (P Q T2 : List α) (x : α), dk.size = d.size ∧ dk.toList = A ++ (P ++ (x :: (Q ++ (T2 ++ B)))) ∧ a + P.length = jp ∧ a + P.length + Q.length = i ∧ i + 1 + T2.length = b ∧ Sorted κ lt (P ++ Q) ∧ Lt κ lt [x] Q ∧ Same κ (P ++ Q ++ x :: T2) T ∧ SWK enc k w0 blk off dk W')) := by
      intro hv W' hW
      refine ⟨_, P, y :: Q, T2, x, by rw [size_swp]; exact h1, hsw, by omega, by rw [List.length_cons]; omega, h5, by simpa using h6, ?_, by simpa using h8, hW⟩
      intro u hu z hz
      rw [List.mem_singleton.1 hu]
      rcases List.mem_cons.1 hz with e | e
      ·
       rw [e]
       exact (HCF.out x y).1 hv
      ·
       exact h7 x (List.mem_singleton.2 rfl) z e
     have NO : Aside (¬ cf x y < 0 → ∀ W', SWK enc k w0 blk off dk W' → Aside (∃ (dk : Array α) (T1 T2 : List α), dk.size = d.size ∧ dk.toList = A ++ (T1 ++ (T2 ++ B)) ∧ a + T1.length = min (i + 1) b ∧ min (i + 1) b + T2.length = b ∧ Sorted κ lt T1 ∧ Same κ (T1 ++ T2) T ∧ SWK enc k w0 blk off dk W')) := by
      intro hv W' hW
      refine OUT.out W' ⟨dk, P ++ [y], Q, T2, x, h1, h2, by rw [List.length_append, List.length_singleton]; omega, h5, h6, h7, ?_, h8, hW⟩
      have hxy : lt (κ x) (κ y) = false := Bool.eq_false_iff.2 fun e => hv ((HCF.out x y).2 e)
      intro z hz u hu
      rw [List.mem_singleton.1 hu]
      rcases List.mem_append.1 hz with e | e
      ·
       have := (sorted_app.1 (sorted_app.1 h6).1).2.2 z e y (List.mem_singleton.2 rfl)
       exact o.le_trans this hxy
      ·
       rw [List.mem_singleton.1 e]
       exact hxy
     clear h1 h2 h3 h4 h5 h6 h7 h8 h9 hsw
     have hjaz : (a : Int) < (jp : Int) + 1 := by omega
     have hwp : IntKind.i64.wrap (jp : Int) = (jp : Int) := by rw [IntKind.wrap_i64]; omega
     have jz : (jp : Int) + 1 < (d.size : Int) := by omega
     have jz1 : (jp : Int) < (d.size : Int) := by omega
     have p0 : (0 : Int) ≤ (jp : Int) + 1 := by omega
     have e0 : ((jp : Int) + 1).toNat = jp + 1 := by omega
     have lj := S1.out.ld R (by omega) Try.prog (jp + 1) (by omega)
     have lp := S1.out.ld R (by omega) Try.prog jp (by omega)
     rw [hx] at lj
     rw [hy] at lp
     have hcg := S1.out.cmp HC.out (by omega) x y
     have HXY : Aside (dk[jp + 1]! = x ∧ dk[jp]! = y ∧ d0.size = d.size ∧ dk.size = d.size) := ⟨hx, hy, hA.2.2, hdsz⟩
     clear hx hy hA hdsz
     by_cases hlv : cf x y < 0
     ·
      have hdv : decide (cf x y < 0) = true := decide_eq_true hlv
      go_wp2_with fail
      go_quiet_grown (first | (go_at_fn g; refine Calls.grown_of (hcg _ _)))
      have S2 : Aside (SWK enc k w0 blk off dk (grow (wr.drewN nq) osq)) := S1.out.grown nq osq
      clear lj lp hcg S1
      generalize grow (wr.drewN nq) osq = w2 at S2 ⊢
      clear nq osq
      have S3 := S2.out.swapped R (jp + 1) jp (by have := HXY.out; omega) (by have := HXY.out; omega)
      have la := S2.out.ld1 R (by have := HXY.out; omega) Try.prog (jp + 1) (by have := HXY.out; omega)
      have lb := S2.out.ld1 R (by have := HXY.out; omega) Try.prog jp (by have := HXY.out; omega)
      have sa := S2.out.st1 R (by have := HXY.out; omega) Try.prog (jp + 1) (by have := HXY.out; omega) dk[jp]!
      have sb := S2.out.st2 R (by have := HXY.out; omega) Try.prog (jp + 1) jp (by have := HXY.out; omega) (by have := HXY.out; omega) dk[jp]! dk[jp + 1]!
      have na : (enc dk[jp + 1]!).length = k := R.hk _
      have nb : (enc dk[jp]!).length = k := R.hk _
      generalize enc dk[jp + 1]! = cI at S3 la sb na
      generalize enc dk[jp]! = cJ at S3 lb sa sb nb
      have S4 : Aside _ := S3
      clear S2 S3
      go_wp2_with fail
      go_big_region_o
      clear la lb sa sb
      generalize (w2.drew.setCells blk (off + (jp + 1) * k) cJ).setCells blk (off + jp * k) cI = w4 at S4 ⊢
      go_wp2
      go_roundg jp
      case measure => omega
      case rel => exact ⟨jp, by go_num, by omega, by omega, Nat.le_refl _, YES.out hlv _ S4.out⟩
     ·
      have hdv : decide (cf x y < 0) = false := decide_eq_false hlv
      go_wp2_with fail
      go_quiet_grown (first | (go_at_fn g; refine Calls.grown_of (hcg _ _)))
      have S2 : Aside (SWK enc k w0 blk off dk (grow (wr.drewN nq) osq)) := S1.out.grown nq osq
      clear lj lp hcg S1
      generalize grow (wr.drewN nq) osq = w2 at S2 ⊢
      clear nq osq
      go_wp2
      go_roundg (b - (i + 1))
      case measure => omega
      case rel => exact ⟨i + 1, by go_num, by omega, by omega, by omega, NO.out hlv _ S2.out⟩
    ·
     have hje : j = a := by omega
     have HO : Aside (∃ (dk : Array α) (T1 T2 : List α), dk.size = d.size ∧ dk.toList = A ++ (T1 ++ (T2 ++ B)) ∧ a + T1.length = min (i + 1) b ∧ min (i + 1) b + T2.length = b ∧ Sorted κ lt T1 ∧ Same κ (T1 ++ T2) T ∧ SWK enc k w0 blk off dk wr.drew) := by
      obtain ⟨dk, P, Q, T2, x, h1, h2, h3, h4, h5, h6, h7, h8, h9⟩ := HI.out
      have hP : P = [] := List.eq_nil_of_length_eq_zero (by omega)
      exact OUT.out _ ⟨dk, P, Q, T2, x, h1, h2, h4, h5, h6, h7, by rw [hP]; exact fun z hz => absurd hz (by simp), h8, h9.drew⟩
     clear HI OUT
     subst hje
     have hjaz : decide ((j : Int) > (j : Int)) = false := decide_eq_false (by omega)
     have hjaz' : ¬ (j : Int) < (j : Int) := by omega
     go_wp2_with fail
     go_big_region_o
     generalize wr.drew = w2 at HO ⊢
     all_goals go_wp2
     go_roundg (b - (i + 1))
     case measure => omega
     case rel => exact ⟨i + 1, by go_num, by omega, by omega, by omega, HO⟩
  ·
   have hltz : ¬ (i : Int) < (b : Int) := by omega
   go_wp2
   go_end0
   obtain ⟨dk, T1, T2, h1, h2, h3, h4, h5, h6, h7⟩ := HR.out
   have h8 : T2 = [] := List.eq_nil_of_length_eq_zero (by omega)
   subst h8
   exact ⟨rfl, dk, T1, by rw [h2]; simp, h5, by simpa using h6, h7⟩
end Go.Proofs.Ytklhjponikgkkaa.St
end
section
namespace Go.Proofs.Ytklhjponikgkkaa.St
open Go.Shelf Go.RowKit Go.Lib Go.Sort Go.Proofs
set_option linter.unusedSimpArgs false
set_option linter.unusedVariables false
set_option linter.unusedSectionVars false
variable {α K : Type} [Inhabited α] [DecidableEq K]
theorem le_of_last {κ : α → K} {lt : K → K → Bool} (o : Ord lt) {P : List α} {y x : α} (s : Sorted κ lt (P ++ [y])) (h : lt (κ x) (κ y) = false) : Le κ lt (P ++ [y]) [x] := by
 intro z hz u hu
 rw [List.mem_singleton.1 hu]
 rcases List.mem_append.1 hz with e | e
 ·
  exact o.le_trans ((sorted_app.1 s).2.2 z e y (List.mem_singleton.2 rfl)) h
 ·
  rw [List.mem_singleton.1 e]
  exact h
theorem lt_of_last {κ : α → K} {lt : K → K → Bool} (o : Ord lt) {P : List α} {y x : α} (s : Sorted κ lt (P ++ [y])) (h : lt (κ y) (κ x) = true) : Lt κ lt (P ++ [y]) [x] := by
 intro z hz u hu
 rw [List.mem_singleton.1 hu]
 rcases List.mem_append.1 hz with e | e
 ·
  exact o.le_lt ((sorted_app.1 s).2.2 z e y (List.mem_singleton.2 rfl)) h
 ·
  rw [List.mem_singleton.1 e]
  exact h
theorem le_of_head {κ : α → K} {lt : K → K → Bool} (o : Ord lt) {Q : List α} {y x : α} (s : Sorted κ lt (y :: Q)) (h : lt (κ y) (κ x) = false) : Le κ lt [x] (y :: Q) := by
 intro u hu z hz
 rw [List.mem_singleton.1 hu]
 rcases List.mem_cons.1 hz with e | e
 ·
  rw [e]
  exact h
 ·
  exact o.le_trans h ((List.pairwise_cons.1 s).1 z e)
theorem lt_of_head {κ : α → K} {lt : K → K → Bool} (o : Ord lt) {Q : List α} {y x : α} (s : Sorted κ lt (y :: Q)) (h : lt (κ x) (κ y) = true) : Lt κ lt [x] (y :: Q) := by
 intro u hu z hz
 rw [List.mem_singleton.1 hu]
 rcases List.mem_cons.1 hz with e | e
 ·
  rw [e]
  exact h
 ·
  exact o.lt_le h ((List.pairwise_cons.1 s).1 z e)
theorem part_at {Y : List α} {n : Nat} (h : n < Y.length) : ∃ Ya y Yb, Y = Ya ++ y :: Yb ∧ Ya.length = n := ⟨Y.take n, Y[n], Y.drop (n + 1), by rw [List.getElem_cons_drop, List.take_append_drop], by rw [List.length_take]; omega⟩
def Done (enc : α → List Value) (k : Nat) (w0 : World) (blk off : Nat) (κ : α → K) (lt : K → K → Bool) (A U B : List α) (W : World) : Prop := ∃ (d' : Array α) (T : List α), d'.toList = A ++ (T ++ B) ∧ Sorted κ lt T ∧ Same κ T U ∧ SWK enc k w0 blk off d' W
theorem swp_sym (d : Array α) {i j : Nat} (hi : i < d.size) (hj : j < d.size) : swp d i j = swp d j i := by
 apply Array.ext
 ·
  rw [size_swp, size_swp]
 ·
  intro t h1 h2
  have a1 := swp_get d hi hj t
  have a2 := swp_get d hj hi t
  rw [size_swp] at h1
  have b1 : (swp d i j)[t]! = (swp d i j)[t]'(by rw [size_swp]; exact h1) := getElem!_pos _ _ _
  have b2 : (swp d j i)[t]! = (swp d j i)[t]'(by rw [size_swp]; exact h1) := getElem!_pos _ _ _
  rw [← b1, ← b2, a1, a2]
  by_cases c1 : t = i
  ·
   subst c1
   by_cases c2 : t = j
   ·
    subst c2
    simp
   ·
    simp [c2]
  ·
   by_cases c2 : t = j
   ·
    subst c2
    simp [c1]
   ·
    simp [c1, c2]
theorem ins_len {κ : α → K} {lt : K → K → Bool} (x : α) : ∀ l : List α, (ins lt κ x l).length = l.length + 1
 | [] => rfl
 | y :: l => by
  unfold ins
  split
  ·
   rfl
  ·
   rw [List.length_cons, ins_len x l, List.length_cons]
theorem isort_len {κ : α → K} {lt : K → K → Bool} (l : List α) : (isort lt κ l).length = l.length := by
 have : ∀ (l a : List α), (l.foldl (fun a x => ins lt κ x a) a).length = a.length + l.length := by
  intro l
  induction l with
  | nil => exact fun a => rfl
  | cons x l ih =>
   intro a
   rw [List.foldl_cons, ih, ins_len, List.length_cons]
   omega
 have := this l []
 rw [List.length_nil, Nat.zero_add] at this
 exact this
theorem Same.len {κ : α → K} {lt : K → K → Bool} (o : Ord lt) {l m : List α} (h : Same κ l m) : l.length = m.length := by
 have := unique o (isort_sorted o l) (isort_sorted o m) ((isort_same o l).trans (h.trans (isort_same o m).symm))
 have e := congrArg List.length this
 rwa [isort_len, isort_len] at e
theorem parted {κ : α → K} {lt : K → K → Bool} (o : Ord lt) {d : Array α} {A X Y B : List α} {a m b mid s s0 r0 : Nat} (hd : d.toList = A ++ (X ++ (Y ++ B))) (ha : A.length = a) (hm : a + X.length = m) (hb : m + Y.length = b) (sX : Sorted κ lt X) (sY : Sorted κ lt Y)
 (h1 : 2 * mid ≤ a + b) (h2 : a + b ≤ 2 * mid + 1) (h0 : (mid < m ∧ s0 = mid + m - b ∧ r0 = mid) ∨ (m ≤ mid ∧ s0 = a ∧ r0 = m)) (h3 : s0 ≤ s) (h4 : s ≤ r0)
 (hl : s = s0 ∨ lt (κ d[mid + m - s]!) (κ d[s - 1]!) = false) (hr : s = r0 ∨ lt (κ d[mid + m - 1 - s]!) (κ d[s]!) = true) :
 ∃ X1 X2 Y1 Y2 : List α, X = X1 ++ X2 ∧ Y = Y1 ++ Y2 ∧ a + X1.length = s ∧ m + Y1.length = mid + m - s ∧ Le κ lt X1 Y2 ∧ Lt κ lt Y1 X2 := by
 have hab : a ≤ s0 := by omega
 obtain ⟨X1, X2, hX, hx1⟩ : ∃ X1 X2, X = X1 ++ X2 ∧ X1.length = s - a := ⟨X.take (s - a), X.drop (s - a), (List.take_append_drop _ _).symm, by rw [List.length_take]; omega⟩
 obtain ⟨Y1, Y2, hY, hy1⟩ : ∃ Y1 Y2, Y = Y1 ++ Y2 ∧ Y1.length = mid - s := ⟨Y.take (mid - s), Y.drop (mid - s), (List.take_append_drop _ _).symm, by rw [List.length_take]; omega⟩
 have hx2 : X1.length + X2.length = X.length := by rw [hX, List.length_append]
 have hy2 : Y1.length + Y2.length = Y.length := by rw [hY, List.length_append]
 refine ⟨X1, X2, Y1, Y2, hX, hY, by omega, by omega, ?_, ?_⟩
 ·
  rcases Nat.eq_zero_or_pos X1.length with e | e
  ·
   rw [List.eq_nil_of_length_eq_zero e]
   exact fun x hx => absurd hx (by simp)
  ·
   rcases Nat.eq_zero_or_pos Y2.length with e2 | e2
   ·
    rw [List.eq_nil_of_length_eq_zero e2]
    exact fun x _ y hy => absurd hy (by simp)
   ·
    obtain ⟨X1, x, rfl⟩ := snoc_of e
    cases Y2 with
    | nil => exact absurd e2 (by simp)
    | cons y Y2 =>
     rw [List.length_append, List.length_singleton] at hx1 hx2
     rw [List.length_cons] at hy2
     have hx : d[s - 1]! = x := by
      have := get_mid (d := d) (p := A ++ X1) (r := X2 ++ (Y ++ B)) (x := x) (by rw [hd, hX]; simp)
      rwa [show (A ++ X1).length = s - 1 by rw [List.length_append]; omega] at this
     have hy : d[mid + m - s]! = y := by
      have := get_mid (d := d) (p := A ++ (X ++ Y1)) (r := Y2 ++ B) (x := y) (by rw [hd, hY]; simp)
      rwa [show (A ++ (X ++ Y1)).length = mid + m - s by rw [List.length_append, List.length_append]; omega] at this
     have hl2 : lt (κ y) (κ x) = false := by
      rcases hl with h | h
      ·
       omega
      ·
       rwa [hx, hy] at h
     have t1 : Le κ lt (X1 ++ [x]) [y] := le_of_last o (sorted_app.1 (by rw [← hX]; exact sX)).1 hl2
     have t2 := (sorted_app.1 (show Sorted κ lt (Y1 ++ (y :: Y2)) by rw [← hY]; exact sY)).2.1
     intro u hu z hz
     rcases List.mem_cons.1 hz with q | q
     ·
      rw [q]
      exact t1 u hu y (List.mem_singleton.2 rfl)
     ·
      exact o.le_trans (t1 u hu y (List.mem_singleton.2 rfl)) ((List.pairwise_cons.1 t2).1 z q)
 ·
  rcases Nat.eq_zero_or_pos Y1.length with e | e
  ·
   rw [List.eq_nil_of_length_eq_zero e]
   exact fun x hx => absurd hx (by simp)
  ·
   rcases Nat.eq_zero_or_pos X2.length with e2 | e2
   ·
    rw [List.eq_nil_of_length_eq_zero e2]
    exact fun x _ y hy => absurd hy (by simp)
   ·
    obtain ⟨Y1, y, rfl⟩ := snoc_of e
    cases X2 with
    | nil => exact absurd e2 (by simp)
    | cons x X2 =>
     rw [List.length_append, List.length_singleton] at hy1 hy2
     rw [List.length_cons] at hx2
     have hx : d[s]! = x := by
      have := get_mid (d := d) (p := A ++ X1) (r := X2 ++ (Y ++ B)) (x := x) (by rw [hd, hX]; simp)
      rwa [show (A ++ X1).length = s by rw [List.length_append]; omega] at this
     have hy : d[mid + m - 1 - s]! = y := by
      have := get_mid (d := d) (p := A ++ (X ++ Y1)) (r := Y2 ++ B) (x := y) (by rw [hd, hY]; simp)
      rwa [show (A ++ (X ++ Y1)).length = mid + m - 1 - s by rw [List.length_append, List.length_append]; omega] at this
     have hl2 : lt (κ y) (κ x) = true := by
      rcases hr with h | h
      ·
       omega
      ·
       rwa [hx, hy] at h
     have t1 : Lt κ lt (Y1 ++ [y]) [x] := lt_of_last o (sorted_app.1 (by rw [← hY]; exact sY)).1 hl2
     have t2 := (sorted_app.1 (show Sorted κ lt (X1 ++ (x :: X2)) by rw [← hX]; exact sX)).2.1
     intro u hu z hz
     rcases List.mem_cons.1 hz with q | q
     ·
      rw [q]
      exact t1 u hu x (List.mem_singleton.2 rfl)
     ·
      exact o.lt_le (t1 u hu x (List.mem_singleton.2 rfl)) ((List.pairwise_cons.1 t2).1 z q)
theorem asd {p : Prop} (h : p) : Aside p := h
def Q1 (enc : α → List Value) (k : Nat) (w0 : World) (blk off : Nat) (A X1 Y1 X2 R : List α) (W : World) : Prop := ∃ d1 : Array α, d1.toList = A ++ (X1 ++ (Y1 ++ (X2 ++ R))) ∧ SWK enc k w0 blk off d1 W
set_option maxHeartbeats 40000000 in
set_option maxRecDepth 1000000 in
theorem symMerge (k : Nat) (zE : ∀ w, (Go.sizeOf 56).run Try.prog w = .ok k w) (enc : α → List Value) {κ : α → K} {lt : K → K → Bool} (o : Ord lt) (cf : α → α → Int) (hcf : ∀ x y, cf x y < 0 ↔ lt (κ x) (κ y) = true) (g : Nat) (cb : Array Value)
 (eg : ∀ args w, (callFunc g args).run Try.prog w = .ok (.enter g args) w) (blk off cap : Nat) (d0 : Array α) (w0 : World) (hcmp : CmpLays Try.prog g cb enc k cf blk off d0.size w0)
 (R : RowK enc k w0 blk off d0) (hsz : d0.size < 4611686018427387904) : ∀ (n a m b : Nat) (d : Array α) (w : World) (_ : d0.size = d.size) (_ : SWK enc k w0 blk off d w) (A X Y B : List α) (_ : d.toList = A ++ (X ++ (Y ++ B))) (_ : A.length = a) (_ : a + X.length = m) (_ : m + Y.length = b)
 (_ : 0 < X.length) (_ : 0 < Y.length) (_ : Sorted κ lt X) (_ : Sorted κ lt Y) (_ : b - a ≤ n),
 Calls Try.prog 60 #[.slice (some ⟨blk, off, none⟩) d.size cap, .int .i64 a, .int .i64 m, .int .i64 b, .func (.func g) #[] cb] w fun e w' => e = .returned (.tuple #[]) ∧ Aside (Done enc k w0 blk off κ lt A (X ++ Y) B w') := by
 intro n
 induction n with
 | zero =>
  intro a m b d w hs S A X Y B hd ha hm hb hX hY sX sY hn
  omega
 | succ n ih =>
 intro a m b d w hs S A X Y B hd ha hm hb hX hY sX sY hn
 have hlen : d.size = A.length + (X.length + (Y.length + B.length)) := by rw [← Array.length_toList, hd]; simp only [List.length_append]
 have hsd : d.size < 4611686018427387904 := by omega
 have hbl : b ≤ d.size := by omega
 have ham : a < m := by omega
 have hmb : m < b := by omega
 have IH : Aside _ := ih
 have HC : Aside (CmpLays Try.prog g cb enc k cf blk off d0.size w0) := hcmp
 have HCF : Aside (∀ x y, cf x y < 0 ↔ lt (κ x) (κ y) = true) := hcf
 have HX : Aside (A.length = a ∧ a + X.length = m ∧ m + Y.length = b ∧ d0.size = d.size ∧ d0.size < 4611686018427387904) := ⟨ha, hm, hb, hs, hsz⟩
 have SX : Aside (Sorted κ lt X ∧ Sorted κ lt Y) := ⟨sX, sY⟩
 have S0 : Aside (SWK enc k w0 blk off d w) := S
 have HD : Aside (d.toList = A ++ (X ++ (Y ++ B))) := hd
 have hn' : b - a ≤ n + 1 := hn
 clear ih hcmp hcf S hd hlen ha hm hb hX hY hs hsz sX sY hn
 have mixed : Try.prog.follows .mixedOrders = true := by kernel_rfl
 have t3 := Try.underlying3; have a3 := Try.isAgg3; have z3 := Try.sizeOf3; have v3 := Try.zeroValue3
 have t4 := Try.underlying4; have a4 := Try.isAgg4; have z4 := Try.sizeOf4; have v4 := Try.zeroValue4
 have t36 := Try.underlying36; have a36 := Try.isAgg36; have z36 := Try.sizeOf36; have v36 := Try.zeroValue36
 have t81 := Try.underlying81; have a81 := Try.isAgg81; have z81 := Try.sizeOf81; have v81 := Try.zeroValue81
 have t105 := Try.underlying105; have a105 := Try.isAgg105; have z105 := Try.sizeOf105; have v105 := Try.zeroValue105
 have aE := Try.isAgg56
 by_cases hA : m = a + 1
 ·
  obtain ⟨x, hXx⟩ : ∃ x, X = [x] := List.length_eq_one_iff.1 (by have := HX.out; omega)
  have q1 : (((m : Int) - (a : Int)) == 1) = true := beq_iff_eq.2 (by omega)
  have hx0 : d[a]! = x := by
   have := get_mid (d := d) (p := A) (r := Y ++ B) (x := x) (by rw [HD.out, hXx]; simp)
   rwa [HX.out.1] at this
  have HX1 : Aside (X = [x] ∧ d[a]! = x) := ⟨hXx, hx0⟩
  have hA1 : m ≤ a + 1 := by omega
  have hA2 : a + 1 ≤ m := by omega
  clear hXx hx0 hA
  go_enter Try.func60, Try.ntmps60
  go_wp2
  go_loopg [10, 11] (b - m) (fun kx s10 s11 wr => ∃ (i j : Nat), s10 = .int .i64 i ∧ s11 = .int .i64 j ∧ m ≤ i ∧ i ≤ j ∧ j ≤ b ∧ j - i ≤ kx ∧
   Aside (∃ (Y1 Ym Y2 : List α), Y = Y1 ++ (Ym ++ Y2) ∧ m + Y1.length = i ∧ i + Ym.length = j ∧ Lt κ lt Y1 [x] ∧ Le κ lt [x] Y2) ∧ Aside (SWK enc k w0 blk off d wr))
  case atStart => exact ⟨m, b, by go_num, by go_num, Nat.le_refl _, by omega, Nat.le_refl _, Nat.le_refl _, (show Aside _ from ⟨[], Y, [], by simp, by simp, by have := HX.out; omega, fun _ h => absurd h (by simp), fun _ _ _ h => absurd h (by simp)⟩), S0⟩
  case round =>
   clear S0
   obtain ⟨i, j, rfl, rfl, hmi, hij, hjb, hkx, HY, S1⟩ := hrel
   by_cases hlt : i < j
   ·
    have hltz : (i : Int) < (j : Int) := by omega
    obtain ⟨h, hh⟩ : ∃ h, h = (i + j) / 2 := ⟨_, rfl⟩
    have hih : i ≤ h := by omega
    have hhj : h < j := by omega
    have u1 : IntKind.i64.wrap ((i : Int) + (j : Int)) = (i : Int) + (j : Int) := by rw [IntKind.wrap_i64]; omega
    have u2 : IntKind.u64.wrap ((i : Int) + (j : Int)) = (i : Int) + (j : Int) := by rw [IntKind.wrap_u64]; omega
    have u3 : ((i : Int) + (j : Int)) / 2 = (h : Int) := by omega
    have u4 : IntKind.i64.wrap (h : Int) = (h : Int) := by rw [IntKind.wrap_i64]; omega
    clear hh
    have HP : Aside (∃ y, d[h]! = y ∧ (cf y x < 0 → ∃ (Y1 Ym Y2 : List α), Y = Y1 ++ (Ym ++ Y2) ∧ m + Y1.length = h + 1 ∧ h + 1 + Ym.length = j ∧ Lt κ lt Y1 [x] ∧ Le κ lt [x] Y2) ∧ (¬ cf y x < 0 → ∃ (Y1 Ym Y2 : List α), Y = Y1 ++ (Ym ++ Y2) ∧ m + Y1.length = i ∧ i + Ym.length = h ∧ Lt κ lt Y1 [x] ∧ Le κ lt [x] Y2)) := by
     obtain ⟨Y1, Ym, Y2, e1, e2, e3, e4, e5⟩ := HY.out
     obtain ⟨Ya, y, Yb, f1, f2⟩ := part_at (Y := Ym) (n := h - i) (by omega)
     have hl := HX.out
     have sY := SX.out.2
     rw [e1, f1] at sY
     have s1 : Sorted κ lt (Ya ++ y :: Yb) := (sorted_app.1 (sorted_app.1 sY).2.1).1
     have s2 : Sorted κ lt (Ya ++ [y]) := (sorted_app.1 (show Sorted κ lt (Ya ++ [y] ++ Yb) by simpa using s1)).1
     refine ⟨y, ?_, fun hv => ⟨Y1 ++ (Ya ++ [y]), Yb, Y2, by rw [e1, f1]; simp, ?_, ?_, ?_, e5⟩, fun hv => ⟨Y1, Ya, y :: Yb ++ Y2, by rw [e1, f1]; simp, e2, by omega, e4, ?_⟩⟩
     ·
      have := get_mid (d := d) (p := A ++ (X ++ (Y1 ++ Ya))) (r := Yb ++ (Y2 ++ B)) (x := y) (by rw [HD.out, e1, f1]; simp)
      rwa [show (A ++ (X ++ (Y1 ++ Ya))).length = h by simp only [List.length_append]; omega] at this
     ·
      simp only [List.length_append, List.length_singleton]
      omega
     ·
      rw [f1, List.length_append, List.length_cons] at e3
      omega
     ·
      intro z hz u hu
      rcases List.mem_append.1 hz with e | e
      ·
       exact e4 z e u hu
      ·
       exact lt_of_last o s2 ((HCF.out y x).1 hv) z e u hu
     ·
      have hyx : lt (κ y) (κ x) = false := Bool.eq_false_iff.2 fun e => hv ((HCF.out y x).2 e)
      exact Le.app_r (le_of_head o (sorted_app.1 s1).2.1 hyx) e5
    clear HY
    obtain ⟨y, hx, HP⟩ : ∃ y, d[h]! = y ∧ Aside (_ ∧ _) := by
     obtain ⟨y, h1, h2⟩ := HP.out
     exact ⟨y, h1, h2⟩
    obtain ⟨dk, hdk⟩ : ∃ dk, dk = d := ⟨_, rfl⟩
    have HX2 := HX.out
    have hy := HX1.out.2
    have eh : ((h : Int) : Int).toNat = h := by omega
    have ph : (0 : Int) ≤ ((h : Int) : Int) := by omega
    have bh : ((h : Int) : Int) < (d.size : Int) := by omega
    have rh : IntKind.i64.wrap ((h : Int) : Int) = ((h : Int) : Int) := by rw [IntKind.wrap_i64]; omega
    have ea : ((a : Int) : Int).toNat = a := by omega
    have pa : (0 : Int) ≤ ((a : Int) : Int) := by omega
    have ba : ((a : Int) : Int) < (d.size : Int) := by omega
    have ra : IntKind.i64.wrap ((a : Int) : Int) = ((a : Int) : Int) := by rw [IntKind.wrap_i64]; omega
    have lj := S1.out.ld R (by omega) Try.prog h (by omega)
    have lp := S1.out.ld R (by omega) Try.prog a (by omega)
    rw [hx] at lj
    rw [hy] at lp
    have hcg := S1.out.cmp HC.out (by omega) y x
    clear hx hy HX2 hdk dk
    by_cases hv : cf y x < 0
    ·
     have hdv : decide (cf y x < 0) = true := decide_eq_true hv
     go_wp2_with fail
     go_quiet_grown (first | (go_at_fn g; refine Calls.grown_of (hcg _ _)))
     have S2 : Aside (SWK enc k w0 blk off d (grow (wr.drewN nq) osq)) := S1.out.grown nq osq
     clear lj lp hcg S1
     generalize grow (wr.drewN nq) osq = w2 at S2 ⊢
     clear nq osq
     go_wp2
     go_roundg (j - (h + 1))
     case measure => omega
     case rel => exact ⟨h + 1, j, by go_num, rfl, by omega, by omega, hjb, Nat.le_refl _, HP.out.1 hv, S2⟩
    ·
     have hdv : decide (cf y x < 0) = false := decide_eq_false hv
     go_wp2_with fail
     go_quiet_grown (first | (go_at_fn g; refine Calls.grown_of (hcg _ _)))
     have S2 : Aside (SWK enc k w0 blk off d (grow (wr.drewN nq) osq)) := S1.out.grown nq osq
     clear lj lp hcg S1
     generalize grow (wr.drewN nq) osq = w2 at S2 ⊢
     clear nq osq
     go_wp2
     go_roundg (h - i)
     case measure => omega
     case rel => exact ⟨i, h, rfl, by go_num, hmi, hih, by omega, Nat.le_refl _, HP.out.2 hv, S2⟩
   ·
    have hltz : ¬ (i : Int) < (j : Int) := by omega
    have hij' : i = j := by omega
    subst hij'
    have HZ : Aside (∃ (Y1 Y2 : List α) (dk : Array α) (Ya Yb : List α), dk.size = d.size ∧ Y = Y1 ++ Y2 ∧ m + Y1.length = i ∧ Lt κ lt Y1 [x] ∧ Le κ lt [x] Y2 ∧ Y1 = Ya ++ Yb ∧ a + Ya.length = a ∧ dk.toList = A ++ (Ya ++ (x :: (Yb ++ (Y2 ++ B)))) ∧ SWK enc k w0 blk off dk wr) := by
     obtain ⟨Y1, Ym, Y2, e1, e2, e3, e4, e5⟩ := HY.out
     have : Ym = [] := List.eq_nil_of_length_eq_zero (by omega)
     subst this
     exact ⟨Y1, Y2, d, [], Y1, rfl, e1, e2, e4, e5, rfl, rfl, by rw [HD.out, HX1.out.1, e1]; simp, S1.out⟩
    clear HY S1
    have r1 : IntKind.i64.wrap ((i : Int) - 1) = (i : Int) - 1 := by rw [IntKind.wrap_i64]; omega
    go_wp2
    go_loopg [13] (i - a) (fun kx s13 wr => ∃ (t : Nat), s13 = .int .i64 t ∧ a ≤ t ∧ t + 1 ≤ i ∧ i - t ≤ kx ∧
     Aside (∃ (Y1 Y2 : List α) (dk : Array α) (Ya Yb : List α), dk.size = d.size ∧ Y = Y1 ++ Y2 ∧ m + Y1.length = i ∧ Lt κ lt Y1 [x] ∧ Le κ lt [x] Y2 ∧ Y1 = Ya ++ Yb ∧ a + Ya.length = t ∧ dk.toList = A ++ (Ya ++ (x :: (Yb ++ (Y2 ++ B)))) ∧ SWK enc k w0 blk off dk wr))
    case atStart => exact ⟨a, rfl, Nat.le_refl _, by omega, Nat.le_refl _, HZ⟩
    case round =>
     clear HZ
     obtain ⟨t, rfl, hat, hti, hkx2, HZ⟩ := hrel
     by_cases hlt2 : t + 1 < i
     ·
      have hl2 : (t : Int) < (i : Int) - 1 := by omega
      obtain ⟨dk, S1, HN⟩ : ∃ dk : Array α, Aside (dk.size = d.size ∧ SWK enc k w0 blk off dk wr) ∧ Aside (∀ W, SWK enc k w0 blk off (swp dk t (t + 1)) W → Aside (∃ (Y1 Y2 : List α) (dk : Array α) (Ya Yb : List α), dk.size = d.size ∧ Y = Y1 ++ Y2 ∧ m + Y1.length = i ∧ Lt κ lt Y1 [x] ∧ Le κ lt [x] Y2 ∧ Y1 = Ya ++ Yb ∧ a + Ya.length = t + 1 ∧ dk.toList = A ++ (Ya ++ (x :: (Yb ++ (Y2 ++ B)))) ∧ SWK enc k w0 blk off dk W)) := by
       obtain ⟨Y1, Y2, dk, Ya, Yb, f1, f2, f3, f4, f5, f6, f7, f8, f9⟩ := HZ.out
       have hl := HX.out
       have f6' := f6
       refine ⟨dk, ⟨f1, f9⟩, fun W hW => ?_⟩
       cases Yb with
       | nil =>
        rw [f6, List.append_nil] at f3
        omega
       | cons z Yb =>
        refine ⟨Y1, Y2, _, Ya ++ [z], Yb, by rw [size_swp]; exact f1, f2, f3, f4, f5, by rw [f6]; simp, by rw [List.length_append, List.length_singleton]; omega, ?_, hW⟩
        have := swp_list (p := A ++ Ya) (q := []) (r := Yb ++ (Y2 ++ B)) (x := x) (y := z) (d := dk) (by rw [f8]; simp)
        rw [show (A ++ Ya).length = t by rw [List.length_append]; omega, List.length_nil, Nat.add_zero] at this
        rw [this]
        simp
      clear HZ
      have hds := S1.out.1
      have S1 : Aside (SWK enc k w0 blk off dk wr) := S1.out.2
      have HX2 := HX.out
      have et : ((t : Int) : Int).toNat = t := by omega
      have pt : (0 : Int) ≤ ((t : Int) : Int) := by omega
      have bt : ((t : Int) : Int) < (d.size : Int) := by omega
      have rt : IntKind.i64.wrap ((t : Int) : Int) = ((t : Int) : Int) := by rw [IntKind.wrap_i64]; omega
      have eu : ((t : Int) + 1 : Int).toNat = t + 1 := by omega
      have pu : (0 : Int) ≤ ((t : Int) + 1 : Int) := by omega
      have bu : ((t : Int) + 1 : Int) < (d.size : Int) := by omega
      have ru : IntKind.i64.wrap ((t : Int) + 1 : Int) = ((t : Int) + 1 : Int) := by rw [IntKind.wrap_i64]; omega
      have S3 := S1.out.swapped R (t) (t + 1) (by omega) (by omega)
      have la := S1.out.ld1 R (by omega) Try.prog (t) (by omega)
      have lb := S1.out.ld1 R (by omega) Try.prog (t + 1) (by omega)
      have sa := S1.out.st1 R (by omega) Try.prog (t) (by omega) dk[t + 1]!
      have sb := S1.out.st2 R (by omega) Try.prog (t) (t + 1) (by omega) (by omega) dk[t + 1]! dk[t]!
      have na : (enc dk[t]!).length = k := R.hk _
      have nb : (enc dk[t + 1]!).length = k := R.hk _
      generalize enc dk[t]! = cI at S3 la sb na
      generalize enc dk[t + 1]! = cJ at S3 lb sa sb nb
      have S4 : Aside _ := S3
      clear S1 S3
      go_wp2_with fail
      go_big_region_o
      clear la lb sa sb
      generalize (wr.drew.setCells blk (off + (t) * k) cJ).setCells blk (off + (t + 1) * k) cI = w4 at S4 ⊢
      go_wp2
      go_roundg (i - (t + 1))
      case measure => omega
      case rel => exact ⟨t + 1, by go_num, by omega, by omega, Nat.le_refl _, HN.out _ S4.out⟩
     ·
      have hl2 : ¬ (t : Int) < (i : Int) - 1 := by omega
      go_wp2
      ((try simp only [Exit.inBlock, Exit.then]); refine bodyPost_ret (results_none rfl _ _ _) rfl ?_)
      obtain ⟨Y1, Y2, dk, Ya, Yb, f1, f2, f3, f4, f5, f6, f7, f8, f9⟩ := HZ.out
      have hYb : Yb = [] := List.eq_nil_of_length_eq_zero (by rw [f6, List.length_append] at f3; omega)
      subst hYb
      rw [List.append_nil] at f6
      subst f6
      have p := put_out o (a := Y1) (b := Y2) (x := x) (by rw [← f2]; exact SX.out.2) f4 f5
      refine ⟨rfl, (show Aside _ from ⟨dk, Y1 ++ x :: Y2, by rw [f8]; simp, p.1, ?_, f9⟩)⟩
      rw [HX1.out.1, f2]
      exact p.2
 by_cases hB : b = m + 1
 ·
  obtain ⟨y, hYy⟩ : ∃ y, Y = [y] := List.length_eq_one_iff.1 (by have := HX.out; omega)
  have q1 : (((m : Int) - (a : Int)) == 1) = false := beq_eq_false_iff_ne.2 (by omega)
  have q2 : (((b : Int) - (m : Int)) == 1) = true := beq_iff_eq.2 (by omega)
  have hy0 : d[m]! = y := by
   have := get_mid (d := d) (p := A ++ X) (r := B) (x := y) (by rw [HD.out, hYy]; simp)
   rwa [show (A ++ X).length = m by have := HX.out; rw [List.length_append]; omega] at this
  have HX1 : Aside (Y = [y] ∧ d[m]! = y) := ⟨hYy, hy0⟩
  have hB1 : b ≤ m + 1 := by omega
  have hB2 : m + 1 ≤ b := by omega
  clear hYy hy0 hB
  go_enter Try.func60, Try.ntmps60
  go_wp2
  go_loopg [14, 15] (m - a) (fun kx s10 s11 wr => ∃ (i j : Nat), s10 = .int .i64 i ∧ s11 = .int .i64 j ∧ a ≤ i ∧ i ≤ j ∧ j ≤ m ∧ j - i ≤ kx ∧
   Aside (∃ (X1 Xm X2 : List α), X = X1 ++ (Xm ++ X2) ∧ a + X1.length = i ∧ i + Xm.length = j ∧ Le κ lt X1 [y] ∧ Lt κ lt [y] X2) ∧ Aside (SWK enc k w0 blk off d wr))
  case atStart => exact ⟨a, m, rfl, rfl, Nat.le_refl _, by omega, Nat.le_refl _, Nat.le_refl _, (show Aside _ from ⟨[], X, [], by simp, by simp, by have := HX.out; omega, fun _ h => absurd h (by simp), fun _ _ _ h => absurd h (by simp)⟩), S0⟩
  case round =>
   clear S0
   obtain ⟨i, j, rfl, rfl, hmi, hij, hjb, hkx, HY, S1⟩ := hrel
   by_cases hlt : i < j
   ·
    have hltz : (i : Int) < (j : Int) := by omega
    obtain ⟨h, hh⟩ : ∃ h, h = (i + j) / 2 := ⟨_, rfl⟩
    have hih : i ≤ h := by omega
    have hhj : h < j := by omega
    have u1 : IntKind.i64.wrap ((i : Int) + (j : Int)) = (i : Int) + (j : Int) := by rw [IntKind.wrap_i64]; omega
    have u2 : IntKind.u64.wrap ((i : Int) + (j : Int)) = (i : Int) + (j : Int) := by rw [IntKind.wrap_u64]; omega
    have u3 : ((i : Int) + (j : Int)) / 2 = (h : Int) := by omega
    have u4 : IntKind.i64.wrap (h : Int) = (h : Int) := by rw [IntKind.wrap_i64]; omega
    clear hh
    have HP : Aside (∃ x, d[h]! = x ∧ (¬ cf y x < 0 → ∃ (X1 Xm X2 : List α), X = X1 ++ (Xm ++ X2) ∧ a + X1.length = h + 1 ∧ h + 1 + Xm.length = j ∧ Le κ lt X1 [y] ∧ Lt κ lt [y] X2) ∧ (cf y x < 0 → ∃ (X1 Xm X2 : List α), X = X1 ++ (Xm ++ X2) ∧ a + X1.length = i ∧ i + Xm.length = h ∧ Le κ lt X1 [y] ∧ Lt κ lt [y] X2)) := by
     obtain ⟨X1, Xm, X2, e1, e2, e3, e4, e5⟩ := HY.out
     obtain ⟨Xa, x, Xb, f1, f2⟩ := part_at (Y := Xm) (n := h - i) (by omega)
     have hl := HX.out
     have sX := SX.out.1
     rw [e1, f1] at sX
     have s1 : Sorted κ lt (Xa ++ x :: Xb) := (sorted_app.1 (sorted_app.1 sX).2.1).1
     have s2 : Sorted κ lt (Xa ++ [x]) := (sorted_app.1 (show Sorted κ lt (Xa ++ [x] ++ Xb) by simpa using s1)).1
     refine ⟨x, ?_, fun hv => ⟨X1 ++ (Xa ++ [x]), Xb, X2, by rw [e1, f1]; simp, ?_, ?_, ?_, e5⟩, fun hv => ⟨X1, Xa, x :: Xb ++ X2, by rw [e1, f1]; simp, e2, by omega, e4, ?_⟩⟩
     ·
      have := get_mid (d := d) (p := A ++ (X1 ++ Xa)) (r := Xb ++ (X2 ++ (Y ++ B))) (x := x) (by rw [HD.out, e1, f1]; simp)
      rwa [show (A ++ (X1 ++ Xa)).length = h by simp only [List.length_append]; omega] at this
     ·
      simp only [List.length_append, List.length_singleton]
      omega
     ·
      rw [f1, List.length_append, List.length_cons] at e3
      omega
     ·
      have hyx : lt (κ y) (κ x) = false := Bool.eq_false_iff.2 fun e => hv ((HCF.out y x).2 e)
      exact Le.app_l e4 (le_of_last o s2 hyx)
     ·
      intro u hu z hz
      rcases List.mem_append.1 hz with e | e
      ·
       exact lt_of_head o (sorted_app.1 s1).2.1 ((HCF.out y x).1 hv) u hu z e
      ·
       exact e5 u hu z e
    clear HY
    obtain ⟨x, hy, HP⟩ : ∃ x, d[h]! = x ∧ Aside (_ ∧ _) := by
     obtain ⟨x, h1, h2⟩ := HP.out
     exact ⟨x, h1, h2⟩
    have HX2 := HX.out
    have hx := HX1.out.2
    have eh : ((h : Int) : Int).toNat = h := by omega
    have ph : (0 : Int) ≤ ((h : Int) : Int) := by omega
    have bh : ((h : Int) : Int) < (d.size : Int) := by omega
    have rh : IntKind.i64.wrap ((h : Int) : Int) = ((h : Int) : Int) := by rw [IntKind.wrap_i64]; omega
    have ea : ((m : Int) : Int).toNat = m := by omega
    have pa : (0 : Int) ≤ ((m : Int) : Int) := by omega
    have ba : ((m : Int) : Int) < (d.size : Int) := by omega
    have ra : IntKind.i64.wrap ((m : Int) : Int) = ((m : Int) : Int) := by rw [IntKind.wrap_i64]; omega
    have lj := S1.out.ld R (by omega) Try.prog m (by omega)
    have lp := S1.out.ld R (by omega) Try.prog h (by omega)
    rw [hx] at lj
    rw [hy] at lp
    have hcg := S1.out.cmp HC.out (by omega) y x
    clear hx hy HX2
    by_cases hv : cf y x < 0
    ·
     have hdv : decide (cf y x < 0) = true := decide_eq_true hv
     go_wp2_with fail
     go_quiet_grown (first | (go_at_fn g; refine Calls.grown_of (hcg _ _)))
     have S2 : Aside (SWK enc k w0 blk off d (grow (wr.drewN nq) osq)) := S1.out.grown nq osq
     clear lj lp hcg S1
     generalize grow (wr.drewN nq) osq = w2 at S2 ⊢
     clear nq osq
     go_wp2
     go_roundg (h - i)
     case measure => omega
     case rel => exact ⟨i, h, rfl, by go_num, hmi, hih, by omega, Nat.le_refl _, HP.out.2 hv, S2⟩
    ·
     have hdv : decide (cf y x < 0) = false := decide_eq_false hv
     go_wp2_with fail
     go_quiet_grown (first | (go_at_fn g; refine Calls.grown_of (hcg _ _)))
     have S2 : Aside (SWK enc k w0 blk off d (grow (wr.drewN nq) osq)) := S1.out.grown nq osq
     clear lj lp hcg S1
     generalize grow (wr.drewN nq) osq = w2 at S2 ⊢
     clear nq osq
     go_wp2
     go_roundg (j - (h + 1))
     case measure => omega
     case rel => exact ⟨h + 1, j, by go_num, rfl, by omega, by omega, hjb, Nat.le_refl _, HP.out.1 hv, S2⟩
   ·
    have hltz : ¬ (i : Int) < (j : Int) := by omega
    have hij' : i = j := by omega
    subst hij'
    have HZ : Aside (∃ (X1 X2 : List α) (dk : Array α) (Xa Xb : List α), dk.size = d.size ∧ X = X1 ++ X2 ∧ a + X1.length = i ∧ Le κ lt X1 [y] ∧ Lt κ lt [y] X2 ∧ X2 = Xa ++ Xb ∧ i + Xa.length = m ∧ dk.toList = A ++ (X1 ++ (Xa ++ (y :: (Xb ++ B)))) ∧ SWK enc k w0 blk off dk wr) := by
     obtain ⟨X1, Xm, X2, e1, e2, e3, e4, e5⟩ := HY.out
     have hl := HX.out
     have : Xm = [] := List.eq_nil_of_length_eq_zero (by omega)
     subst this
     exact ⟨X1, X2, d, X2, [], rfl, e1, e2, e4, e5, by simp, by rw [e1] at hl; simp only [List.length_append, List.length_nil] at hl; omega, by rw [HD.out, HX1.out.1, e1]; simp, S1.out⟩
    clear HY S1
    go_wp2
    go_loopg [17] (m - i) (fun kx s13 wr => ∃ (t : Nat), s13 = .int .i64 t ∧ i ≤ t ∧ t ≤ m ∧ t - i ≤ kx ∧
     Aside (∃ (X1 X2 : List α) (dk : Array α) (Xa Xb : List α), dk.size = d.size ∧ X = X1 ++ X2 ∧ a + X1.length = i ∧ Le κ lt X1 [y] ∧ Lt κ lt [y] X2 ∧ X2 = Xa ++ Xb ∧ i + Xa.length = t ∧ dk.toList = A ++ (X1 ++ (Xa ++ (y :: (Xb ++ B)))) ∧ SWK enc k w0 blk off dk wr))
    case atStart => exact ⟨m, rfl, by omega, Nat.le_refl _, Nat.le_refl _, HZ⟩
    case round =>
     clear HZ
     obtain ⟨t, rfl, hat, hti, hkx2, HZ⟩ := hrel
     by_cases hlt2 : i < t
     ·
      obtain ⟨t, rfl⟩ : ∃ t', t = t' + 1 := ⟨t - 1, by omega⟩
      have hl2 : (i : Int) < (t : Int) + 1 := by omega
      obtain ⟨dk, S1, HN⟩ : ∃ dk : Array α, Aside (dk.size = d.size ∧ SWK enc k w0 blk off dk wr) ∧ Aside (∀ W, SWK enc k w0 blk off (swp dk (t + 1) t) W → Aside (∃ (X1 X2 : List α) (dk : Array α) (Xa Xb : List α), dk.size = d.size ∧ X = X1 ++ X2 ∧ a + X1.length = i ∧ Le κ lt X1 [y] ∧ Lt κ lt [y] X2 ∧ X2 = Xa ++ Xb ∧ i + Xa.length = t ∧ dk.toList = A ++ (X1 ++ (Xa ++ (y :: (Xb ++ B)))) ∧ SWK enc k w0 blk off dk W)) := by
       obtain ⟨X1, X2, dk, Xa, Xb, f1, f2, f3, f4, f5, f6, f7, f8, f9⟩ := HZ.out
       have hl := HX.out
       refine ⟨dk, ⟨f1, f9⟩, fun W hW => ?_⟩
       obtain ⟨Xa, z, rfl⟩ := snoc_of (P := Xa) (by omega)
       rw [List.length_append, List.length_singleton] at f7
       refine ⟨X1, X2, _, Xa, z :: Xb, by rw [size_swp]; exact f1, f2, f3, f4, f5, by rw [f6]; simp, by omega, ?_, hW⟩
       have := swp_list (p := A ++ (X1 ++ Xa)) (q := []) (r := Xb ++ B) (x := z) (y := y) (d := dk) (by rw [f8]; simp)
       rw [show (A ++ (X1 ++ Xa)).length = t by rw [List.length_append, List.length_append]; omega, List.length_nil, Nat.add_zero] at this
       rw [swp_sym dk (by omega) (by omega), this]
       simp
      clear HZ
      have hds := S1.out.1
      have S1 : Aside (SWK enc k w0 blk off dk wr) := S1.out.2
      have HX2 := HX.out
      have et : ((t : Int) : Int).toNat = t := by omega
      have pt : (0 : Int) ≤ ((t : Int) : Int) := by omega
      have bt : ((t : Int) : Int) < (d.size : Int) := by omega
      have rt : IntKind.i64.wrap ((t : Int) : Int) = ((t : Int) : Int) := by rw [IntKind.wrap_i64]; omega
      have eu : ((t : Int) + 1 : Int).toNat = t + 1 := by omega
      have pu : (0 : Int) ≤ ((t : Int) + 1 : Int) := by omega
      have bu : ((t : Int) + 1 : Int) < (d.size : Int) := by omega
      have ru : IntKind.i64.wrap ((t : Int) + 1 : Int) = ((t : Int) + 1 : Int) := by rw [IntKind.wrap_i64]; omega
      have S3 := S1.out.swapped R (t + 1) (t) (by omega) (by omega)
      have la := S1.out.ld1 R (by omega) Try.prog (t + 1) (by omega)
      have lb := S1.out.ld1 R (by omega) Try.prog (t) (by omega)
      have sa := S1.out.st1 R (by omega) Try.prog (t + 1) (by omega) dk[t]!
      have sb := S1.out.st2 R (by omega) Try.prog (t + 1) (t) (by omega) (by omega) dk[t]! dk[t + 1]!
      have na : (enc dk[t + 1]!).length = k := R.hk _
      have nb : (enc dk[t]!).length = k := R.hk _
      generalize enc dk[t + 1]! = cI at S3 la sb na
      generalize enc dk[t]! = cJ at S3 lb sa sb nb
      have S4 : Aside _ := S3
      clear S1 S3
      go_wp2_with fail
      go_big_region_o
      clear la lb sa sb
      generalize (wr.drew.setCells blk (off + (t + 1) * k) cJ).setCells blk (off + (t) * k) cI = w4 at S4 ⊢
      go_wp2
      go_roundg (t - i)
      case measure => omega
      case rel => exact ⟨t, by go_num, by omega, by omega, Nat.le_refl _, HN.out _ S4.out⟩
     ·
      have hl2 : ¬ (i : Int) < (t : Int) := by omega
      go_wp2
      ((try simp only [Exit.inBlock, Exit.then]); refine bodyPost_ret (results_none rfl _ _ _) rfl ?_)
      obtain ⟨X1, X2, dk, Xa, Xb, f1, f2, f3, f4, f5, f6, f7, f8, f9⟩ := HZ.out
      have hXa : Xa = [] := List.eq_nil_of_length_eq_zero (by omega)
      subst hXa
      rw [List.nil_append] at f6
      subst f6
      have p := put_in o (a := X1) (b := X2) (x := y) (by rw [← f2]; exact SX.out.1) f5 f4
      refine ⟨rfl, (show Aside _ from ⟨dk, X1 ++ y :: X2, by rw [f8]; simp, p.1, ?_, f9⟩)⟩
      rw [HX1.out.1, f2]
      exact p.2
 obtain ⟨mid, hmid1, hmid2⟩ : ∃ mid, 2 * mid ≤ a + b ∧ a + b ≤ 2 * mid + 1 := ⟨(a + b) / 2, by omega, by omega⟩
 have q1 : (((m : Int) - (a : Int)) == 1) = false := beq_eq_false_iff_ne.2 (by omega)
 have q2 : (((b : Int) - (m : Int)) == 1) = false := beq_eq_false_iff_ne.2 (by omega)
 have ua1 : IntKind.i64.wrap ((a : Int) + (b : Int)) = (a : Int) + (b : Int) := by rw [IntKind.wrap_i64]; omega
 have ua2 : IntKind.u64.wrap ((a : Int) + (b : Int)) = (a : Int) + (b : Int) := by rw [IntKind.wrap_u64]; omega
 have ua3 : ((a : Int) + (b : Int)) / 2 = (mid : Int) := by omega
 have ua4 : IntKind.i64.wrap (mid : Int) = (mid : Int) := by rw [IntKind.wrap_i64]; omega
 have am2 : a + 2 ≤ m := by omega
 have mb2 : m + 2 ≤ b := by omega
 have amid : a < mid := by omega
 have midb : mid < b := by omega
 clear hA hB
 by_cases hc : mid < m
 ·
  have hcz : (m : Int) > (mid : Int) := by omega
  obtain ⟨s0, hs2, hs3⟩ : ∃ s0 : Nat, s0 + b ≤ mid + m ∧ mid + m ≤ s0 + b := ⟨mid + m - b, by omega, by omega⟩
  go_enter Try.func60, Try.ntmps60
  go_wp2
  go_loopg [20, 21] (mid - s0) (fun kx s10 s11 wr => ∃ (i j : Nat), s10 = .int .i64 i ∧ s11 = .int .i64 j ∧ s0 ≤ i ∧ i ≤ j ∧ j ≤ mid ∧ j - i ≤ kx ∧
   Aside ((i = s0 ∨ lt (κ d[mid + m - i]!) (κ d[i - 1]!) = false) ∧ (j = mid ∨ lt (κ d[mid + m - 1 - j]!) (κ d[j]!) = true)) ∧ Aside (SWK enc k w0 blk off d wr))
  case atStart => exact ⟨s0, mid, by go_num, by go_num, Nat.le_refl _, by omega, Nat.le_refl _, Nat.le_refl _, (show Aside _ from ⟨.inl rfl, .inl rfl⟩), S0⟩
  case round =>
   clear S0
   obtain ⟨i, j, rfl, rfl, hmi, hij, hjb, hkx, HY, S1⟩ := hrel
   by_cases hlt : i < j
   ·
    have hltz : (i : Int) < (j : Int) := by omega
    obtain ⟨h, hh⟩ : ∃ h, h = (i + j) / 2 := ⟨_, rfl⟩
    have hih : i ≤ h := by omega
    have hhj : h < j := by omega
    have u1 : IntKind.i64.wrap ((i : Int) + (j : Int)) = (i : Int) + (j : Int) := by rw [IntKind.wrap_i64]; omega
    have u2 : IntKind.u64.wrap ((i : Int) + (j : Int)) = (i : Int) + (j : Int) := by rw [IntKind.wrap_u64]; omega
    have u3 : ((i : Int) + (j : Int)) / 2 = (h : Int) := by omega
    have u4 : IntKind.i64.wrap (h : Int) = (h : Int) := by rw [IntKind.wrap_i64]; omega
    clear hh
    obtain ⟨q, hq1, hq2⟩ : ∃ q : Nat, q + h + 1 ≤ mid + m ∧ mid + m ≤ q + h + 1 := ⟨mid + m - 1 - h, by omega, by omega⟩
    have uq : (mid : Int) + (m : Int) - 1 - (h : Int) = (q : Int) := by omega
    have HX2 := HX.out
    obtain ⟨x, hx⟩ : ∃ x, d[q]! = x := ⟨_, rfl⟩
    obtain ⟨y, hy⟩ : ∃ y, d[h]! = y := ⟨_, rfl⟩
    have HP : Aside ((¬ cf x y < 0 → (h + 1 = s0 ∨ lt (κ d[mid + m - (h + 1)]!) (κ d[h + 1 - 1]!) = false)) ∧ (cf x y < 0 → (h = mid ∨ lt (κ d[mid + m - 1 - h]!) (κ d[h]!) = true))) := by
     refine ⟨fun hv => .inr ?_, fun hv => .inr ?_⟩
     ·
      rw [show mid + m - (h + 1) = q by omega, Nat.add_sub_cancel, hx, hy]
      exact Bool.eq_false_iff.2 fun e => hv ((HCF.out x y).2 e)
     ·
      rw [show mid + m - 1 - h = q by omega, hx, hy]
      exact (HCF.out x y).1 hv
    have ex : ((q : Int) : Int).toNat = q := by omega
    have px : (0 : Int) ≤ ((q : Int) : Int) := by omega
    have bx : ((q : Int) : Int) < (d.size : Int) := by omega
    have rx : IntKind.i64.wrap ((q : Int) : Int) = ((q : Int) : Int) := by rw [IntKind.wrap_i64]; omega
    have eh : ((h : Int) : Int).toNat = h := by omega
    have ph : (0 : Int) ≤ ((h : Int) : Int) := by omega
    have bh : ((h : Int) : Int) < (d.size : Int) := by omega
    have rh : IntKind.i64.wrap ((h : Int) : Int) = ((h : Int) : Int) := by rw [IntKind.wrap_i64]; omega
    have lj := S1.out.ld R (by omega) Try.prog q (by omega)
    have lp := S1.out.ld R (by omega) Try.prog h (by omega)
    rw [hx] at lj
    rw [hy] at lp
    have hcg := S1.out.cmp HC.out (by omega) x y
    clear hx hy HX2
    by_cases hv : cf x y < 0
    ·
     have hdv : decide (cf x y < 0) = true := decide_eq_true hv
     go_wp2_with fail
     go_quiet_grown (first | (go_at_fn g; refine Calls.grown_of (hcg _ _)))
     have S2 : Aside (SWK enc k w0 blk off d (grow (wr.drewN nq) osq)) := S1.out.grown nq osq
     clear lj lp hcg S1
     generalize grow (wr.drewN nq) osq = w2 at S2 ⊢
     clear nq osq
     go_wp2
     go_roundg (h - i)
     case measure => omega
     case rel => exact ⟨i, h, rfl, by go_num, hmi, hih, by omega, Nat.le_refl _, (show Aside _ from ⟨HY.out.1, HP.out.2 hv⟩), S2⟩
    ·
     have hdv : decide (cf x y < 0) = false := decide_eq_false hv
     go_wp2_with fail
     go_quiet_grown (first | (go_at_fn g; refine Calls.grown_of (hcg _ _)))
     have S2 : Aside (SWK enc k w0 blk off d (grow (wr.drewN nq) osq)) := S1.out.grown nq osq
     clear lj lp hcg S1
     generalize grow (wr.drewN nq) osq = w2 at S2 ⊢
     clear nq osq
     go_wp2
     go_roundg (j - (h + 1))
     case measure => omega
     case rel => exact ⟨h + 1, j, by go_num, rfl, by omega, by omega, hjb, Nat.le_refl _, (show Aside _ from ⟨HP.out.1 hv, HY.out.2⟩), S2⟩
   ·
    have hltz : ¬ (i : Int) < (j : Int) := by omega
    have hij' : i = j := by omega
    subst hij'
    obtain ⟨X1, X2, Y1, Y2, HP⟩ : ∃ X1 X2 Y1 Y2 : List α, Aside (X = X1 ++ X2 ∧ Y = Y1 ++ Y2 ∧ a + X1.length = i ∧ m + Y1.length = mid + m - i ∧ Le κ lt X1 Y2 ∧ Lt κ lt Y1 X2) := by
     have hl := HX.out
     obtain ⟨X1, X2, Y1, Y2, h⟩ := parted o (d := d) (a := a) (m := m) (b := b) (mid := mid) (s := i) (s0 := s0) (r0 := mid) HD.out hl.1 hl.2.1 hl.2.2.1 SX.out.1 SX.out.2 hmid1 hmid2 (by omega) hmi hjb HY.out.1 HY.out.2
     exact ⟨X1, X2, Y1, Y2, h⟩
    have ue : IntKind.i64.wrap ((mid : Int) + (m : Int) - (i : Int)) = (mid : Int) + (m : Int) - (i : Int) := by rw [IntKind.wrap_i64]; omega
    have Q0 : Aside (SWK enc k w0 blk off d wr) := S1
    have ROT : Aside (i < m → i < mid → ∀ W, SWK enc k w0 blk off d W → Calls Try.prog 62 #[.slice (some ⟨blk, off, none⟩) d.size cap, .int .i64 i, .int .i64 m, .int .i64 ((mid : Int) + (m : Int) - (i : Int)), .func (.func g) #[] cb] W fun e w' => e = .returned (.tuple #[]) ∧ Aside (Q1 enc k w0 blk off A X1 Y1 X2 (Y2 ++ B) w')) := by
     intro c1 c2 W hW
     have hl := HX.out
     obtain ⟨p1, p2, p3, p4, p5, p6⟩ := HP.out
     have x2 : X1.length + X2.length = X.length := by rw [p1, List.length_append]
     have y2 : Y1.length + Y2.length = Y.length := by rw [p2, List.length_append]
     have h := rotate k zE enc g cb blk off cap i m (mid + m - i) d0 d w0 W R hl.2.2.2.1 hW (A ++ X1) X2 Y1 (Y2 ++ B) (by rw [HD.out, p1, p2]; simp) (by rw [List.length_append]; omega) (by omega) (by omega) (by omega) (by omega) (by omega)
     rw [show (((mid + m - i : Nat)) : Int) = (mid : Int) + (m : Int) - (i : Int) by omega] at h
     refine h.mono ?_
     rintro e w1 ⟨rfl, d1, g1, g2⟩
     exact ⟨rfl, (show Aside _ from ⟨d1, by rw [g1]; simp, g2⟩)⟩
    have NOROT : Aside (¬ (i < m ∧ i < mid) → ∀ W, SWK enc k w0 blk off d W → Aside (Q1 enc k w0 blk off A X1 Y1 X2 (Y2 ++ B) W)) := by
     intro c W hW
     have hl := HX.out
     obtain ⟨p1, p2, p3, p4, p5, p6⟩ := HP.out
     have x2 : X1.length + X2.length = X.length := by rw [p1, List.length_append]
     refine ⟨d, ?_, hW⟩
     rcases Nat.eq_zero_or_pos X2.length with q | q
     ·
      have q := List.eq_nil_of_length_eq_zero q
      subst q
      rw [HD.out, p1, p2]
      simp
     ·
      have q : Y1 = [] := List.eq_nil_of_length_eq_zero (by omega)
      subst q
      rw [HD.out, p1, p2]
      simp
    have ONE : Aside (a < i → i < mid → ∀ W, Q1 enc k w0 blk off A X1 Y1 X2 (Y2 ++ B) W → Calls Try.prog 60 #[.slice (some ⟨blk, off, none⟩) d.size cap, .int .i64 a, .int .i64 i, .int .i64 mid, .func (.func g) #[] cb] W fun e w' => e = .returned (.tuple #[]) ∧ Aside (Done enc k w0 blk off κ lt A (X1 ++ Y1) (X2 ++ (Y2 ++ B)) w')) := by
     rintro c1 c2 W ⟨d1, g1, g2⟩
     have hl := HX.out
     obtain ⟨p1, p2, p3, p4, p5, p6⟩ := HP.out
     have x2 : X1.length + X2.length = X.length := by rw [p1, List.length_append]
     have y2 : Y1.length + Y2.length = Y.length := by rw [p2, List.length_append]
     have hz : d1.size = d.size := by rw [← Array.length_toList, g1, ← Array.length_toList, HD.out, p1, p2]; simp only [List.length_append]; omega
     have sX := SX.out.1
     have sY := SX.out.2
     rw [p1] at sX
     rw [p2] at sY
     have h := IH.out a i mid d1 W (by omega) g2 A X1 Y1 (X2 ++ (Y2 ++ B)) g1 hl.1 p3 (by omega) (by omega) (by omega) (sorted_app.1 sX).1 (sorted_app.1 sY).1 (by omega)
     rwa [hz] at h
    have NOONE : Aside (¬ (a < i ∧ i < mid) → ∀ W, Q1 enc k w0 blk off A X1 Y1 X2 (Y2 ++ B) W → Aside (Done enc k w0 blk off κ lt A (X1 ++ Y1) (X2 ++ (Y2 ++ B)) W)) := by
     rintro c W ⟨d1, g1, g2⟩
     have hl := HX.out
     obtain ⟨p1, p2, p3, p4, p5, p6⟩ := HP.out
     have sX := SX.out.1
     have sY := SX.out.2
     rw [p1] at sX
     rw [p2] at sY
     refine ⟨d1, X1 ++ Y1, by rw [g1]; simp, ?_, Same.refl _, g2⟩
     rcases Nat.eq_zero_or_pos X1.length with q | q
     ·
      have q := List.eq_nil_of_length_eq_zero q
      subst q
      exact (sorted_app.1 sY).1
     ·
      have q : Y1 = [] := List.eq_nil_of_length_eq_zero (by omega)
      subst q
      rw [List.append_nil]
      exact (sorted_app.1 sX).1
    have TWO : Aside (mid < mid + m - i → mid + m - i < b → ∀ W, Done enc k w0 blk off κ lt A (X1 ++ Y1) (X2 ++ (Y2 ++ B)) W → Calls Try.prog 60 #[.slice (some ⟨blk, off, none⟩) d.size cap, .int .i64 mid, .int .i64 ((mid : Int) + (m : Int) - (i : Int)), .int .i64 b, .func (.func g) #[] cb] W fun e w' => e = .returned (.tuple #[]) ∧ Aside (Done enc k w0 blk off κ lt A (X ++ Y) B w')) := by
     rintro c1 c2 W ⟨d1, T, g1, g2, g3, g4⟩
     have hl := HX.out
     obtain ⟨p1, p2, p3, p4, p5, p6⟩ := HP.out
     have x2 : X1.length + X2.length = X.length := by rw [p1, List.length_append]
     have y2 : Y1.length + Y2.length = Y.length := by rw [p2, List.length_append]
     have tl := Same.len o g3
     rw [List.length_append] at tl
     have hz : d1.size = d.size := by rw [← Array.length_toList, g1, ← Array.length_toList, HD.out, p1, p2]; simp only [List.length_append]; omega
     have sX := SX.out.1
     have sY := SX.out.2
     rw [p1] at sX
     rw [p2] at sY
     have h := IH.out mid (mid + m - i) b d1 W (by omega) g4 (A ++ T) X2 Y2 B (by rw [g1]; simp) (by rw [List.length_append]; omega) (by omega) (by omega) (by omega) (by omega) (sorted_app.1 sX).2.1 (sorted_app.1 sY).2.1 (by omega)
     rw [hz, show (((mid + m - i : Nat)) : Int) = (mid : Int) + (m : Int) - (i : Int) by omega] at h
     refine h.mono ?_
     rintro e w1 ⟨rfl, h2⟩
     refine ⟨rfl, (show Aside _ from ?_)⟩
     obtain ⟨d2, T2, f1, f2, f3, f4⟩ := h2.out
     have q := four o sX sY p5 p6 g2 g3 f2 f3
     exact ⟨d2, T ++ T2, by rw [f1]; simp, q.1, by rw [p1, p2]; exact q.2, f4⟩
    have NOTWO : Aside (¬ (mid < mid + m - i ∧ mid + m - i < b) → ∀ W, Done enc k w0 blk off κ lt A (X1 ++ Y1) (X2 ++ (Y2 ++ B)) W → Aside (Done enc k w0 blk off κ lt A (X ++ Y) B W)) := by
     rintro c W ⟨d1, T, g1, g2, g3, g4⟩
     have hl := HX.out
     obtain ⟨p1, p2, p3, p4, p5, p6⟩ := HP.out
     have x2 : X1.length + X2.length = X.length := by rw [p1, List.length_append]
     have y2 : Y1.length + Y2.length = Y.length := by rw [p2, List.length_append]
     have sX := SX.out.1
     have sY := SX.out.2
     rw [p1] at sX
     rw [p2] at sY
     have s2 : Sorted κ lt (X2 ++ Y2) := by
      rcases Nat.eq_zero_or_pos X2.length with q | q
      ·
       have q := List.eq_nil_of_length_eq_zero q
       subst q
       exact (sorted_app.1 sY).2.1
      ·
       have q : Y2 = [] := List.eq_nil_of_length_eq_zero (by omega)
       subst q
       rw [List.append_nil]
       exact (sorted_app.1 sX).2.1
     have q := four o sX sY p5 p6 g2 g3 s2 (Same.refl _)
     exact ⟨d1, T ++ (X2 ++ Y2), by rw [g1]; simp, q.1, by rw [p1, p2]; exact q.2, g4⟩
    clear HY S1 HP
    by_cases k2 : i < mid
    ·
     by_cases k3 : a < i
     ·
      by_cases k4 : mid + m - i < b
      ·
       have z1 : (i : Int) < (m : Int) := by omega
       have z2 : (m : Int) < (mid : Int) + (m : Int) - (i : Int) := by omega
       have z3 : (i : Int) < (mid : Int) := by omega
       have z4 : (a : Int) < (i : Int) := by omega
       have z6 : (mid : Int) + (m : Int) - (i : Int) < (b : Int) := by omega
       have z5 : (mid : Int) < (mid : Int) + (m : Int) - (i : Int) := by omega
       have HC1 := asd (ROT.out (by omega) (by omega) _ Q0.out)
       clear ROT NOROT Q0
       go_wp2_with (first | (go_at_call 62; refine HC1.out.mono ?_; clear HC1; rintro e w1 ⟨rfl, Q1_⟩; have HC2 := asd (ONE.out (by omega) (by omega) _ Q1_.out); clear Q1_ ONE NOONE) | (go_at_call 60; refine HC2.out.mono ?_; clear HC2; rintro e w2 ⟨rfl, Q2_⟩; have HC3 := asd (TWO.out (by omega) (by omega) _ Q2_.out); clear Q2_ TWO NOTWO) | (go_at_call 60; refine HC3.out.mono ?_; clear HC3; rintro e w3 ⟨rfl, Q3_⟩))
       all_goals (go_end0; exact ⟨rfl, Q3_⟩)
      ·
       have z1 : (i : Int) < (m : Int) := by omega
       have z2 : (m : Int) < (mid : Int) + (m : Int) - (i : Int) := by omega
       have z3 : (i : Int) < (mid : Int) := by omega
       have z4 : (a : Int) < (i : Int) := by omega
       have z6 : ¬ ((mid : Int) + (m : Int) - (i : Int) < (b : Int)) := by omega
       have z5 : (mid : Int) < (mid : Int) + (m : Int) - (i : Int) := by omega
       have HC1 := asd (ROT.out (by omega) (by omega) _ Q0.out)
       clear ROT NOROT Q0
       go_wp2_with (first | (go_at_call 62; refine HC1.out.mono ?_; clear HC1; rintro e w1 ⟨rfl, Q1_⟩; have HC2 := asd (ONE.out (by omega) (by omega) _ Q1_.out); clear Q1_ ONE NOONE) | (go_at_call 60; refine HC2.out.mono ?_; clear HC2; rintro e w2 ⟨rfl, Q2_⟩; have Q3_ := NOTWO.out (by omega) _ Q2_.out; clear Q2_ TWO NOTWO))
       all_goals (go_end0; exact ⟨rfl, Q3_⟩)
     ·
      by_cases k4 : mid + m - i < b
      ·
       have z1 : (i : Int) < (m : Int) := by omega
       have z2 : (m : Int) < (mid : Int) + (m : Int) - (i : Int) := by omega
       have z3 : (i : Int) < (mid : Int) := by omega
       have z4 : ¬ ((a : Int) < (i : Int)) := by omega
       have z6 : (mid : Int) + (m : Int) - (i : Int) < (b : Int) := by omega
       have z5 : (mid : Int) < (mid : Int) + (m : Int) - (i : Int) := by omega
       have HC1 := asd (ROT.out (by omega) (by omega) _ Q0.out)
       clear ROT NOROT Q0
       go_wp2_with (first | (go_at_call 62; refine HC1.out.mono ?_; clear HC1; rintro e w1 ⟨rfl, Q1_⟩; have Q2_ := NOONE.out (by omega) _ Q1_.out; clear Q1_ ONE NOONE; have HC3 := asd (TWO.out (by omega) (by omega) _ Q2_.out); clear Q2_ TWO NOTWO) | (go_at_call 60; refine HC3.out.mono ?_; clear HC3; rintro e w3 ⟨rfl, Q3_⟩))
       all_goals (go_end0; exact ⟨rfl, Q3_⟩)
      ·
       have z1 : (i : Int) < (m : Int) := by omega
       have z2 : (m : Int) < (mid : Int) + (m : Int) - (i : Int) := by omega
       have z3 : (i : Int) < (mid : Int) := by omega
       have z4 : ¬ ((a : Int) < (i : Int)) := by omega
       have z6 : ¬ ((mid : Int) + (m : Int) - (i : Int) < (b : Int)) := by omega
       have z5 : (mid : Int) < (mid : Int) + (m : Int) - (i : Int) := by omega
       have HC1 := asd (ROT.out (by omega) (by omega) _ Q0.out)
       clear ROT NOROT Q0
       go_wp2_with (first | (go_at_call 62; refine HC1.out.mono ?_; clear HC1; rintro e w1 ⟨rfl, Q1_⟩; have Q2_ := NOONE.out (by omega) _ Q1_.out; clear Q1_ ONE NOONE; have Q3_ := NOTWO.out (by omega) _ Q2_.out; clear Q2_ TWO NOTWO))
       all_goals (go_end0; exact ⟨rfl, Q3_⟩)
    ·
     have z1 : (i : Int) < (m : Int) := by omega
     have z2 : ¬ ((m : Int) < (mid : Int) + (m : Int) - (i : Int)) := by omega
     have z3 : ¬ ((i : Int) < (mid : Int)) := by omega
     have z6 : (mid : Int) + (m : Int) - (i : Int) < (b : Int) := by omega
     have z5 : (mid : Int) < (mid : Int) + (m : Int) - (i : Int) := by omega
     have Q1_ := NOROT.out (by omega) _ Q0.out
     clear ROT NOROT Q0
     have Q2_ := NOONE.out (by omega) _ Q1_.out
     clear Q1_ ONE NOONE
     have HC3 := asd (TWO.out (by omega) (by omega) _ Q2_.out)
     clear Q2_ TWO NOTWO
     go_wp2_with (first | (go_at_call 60; refine HC3.out.mono ?_; clear HC3; rintro e w3 ⟨rfl, Q3_⟩))
     all_goals (go_end0; exact ⟨rfl, Q3_⟩)
 ·
  have hcz : ¬ (m : Int) > (mid : Int) := by omega
  go_enter Try.func60, Try.ntmps60
  go_wp2
  go_loopg [20, 21] (m - a) (fun kx s10 s11 wr => ∃ (i j : Nat), s10 = .int .i64 i ∧ s11 = .int .i64 j ∧ a ≤ i ∧ i ≤ j ∧ j ≤ m ∧ j - i ≤ kx ∧
   Aside ((i = a ∨ lt (κ d[mid + m - i]!) (κ d[i - 1]!) = false) ∧ (j = m ∨ lt (κ d[mid + m - 1 - j]!) (κ d[j]!) = true)) ∧ Aside (SWK enc k w0 blk off d wr))
  case atStart => exact ⟨a, m, by go_num, by go_num, Nat.le_refl _, by omega, Nat.le_refl _, Nat.le_refl _, (show Aside _ from ⟨.inl rfl, .inl rfl⟩), S0⟩
  case round =>
   clear S0
   obtain ⟨i, j, rfl, rfl, hmi, hij, hjb, hkx, HY, S1⟩ := hrel
   by_cases hlt : i < j
   ·
    have hltz : (i : Int) < (j : Int) := by omega
    obtain ⟨h, hh⟩ : ∃ h, h = (i + j) / 2 := ⟨_, rfl⟩
    have hih : i ≤ h := by omega
    have hhj : h < j := by omega
    have u1 : IntKind.i64.wrap ((i : Int) + (j : Int)) = (i : Int) + (j : Int) := by rw [IntKind.wrap_i64]; omega
    have u2 : IntKind.u64.wrap ((i : Int) + (j : Int)) = (i : Int) + (j : Int) := by rw [IntKind.wrap_u64]; omega
    have u3 : ((i : Int) + (j : Int)) / 2 = (h : Int) := by omega
    have u4 : IntKind.i64.wrap (h : Int) = (h : Int) := by rw [IntKind.wrap_i64]; omega
    clear hh
    obtain ⟨q, hq1, hq2⟩ : ∃ q : Nat, q + h + 1 ≤ mid + m ∧ mid + m ≤ q + h + 1 := ⟨mid + m - 1 - h, by omega, by omega⟩
    have uq : (mid : Int) + (m : Int) - 1 - (h : Int) = (q : Int) := by omega
    have HX2 := HX.out
    obtain ⟨x, hx⟩ : ∃ x, d[q]! = x := ⟨_, rfl⟩
    obtain ⟨y, hy⟩ : ∃ y, d[h]! = y := ⟨_, rfl⟩
    have HP : Aside ((¬ cf x y < 0 → (h + 1 = a ∨ lt (κ d[mid + m - (h + 1)]!) (κ d[h + 1 - 1]!) = false)) ∧ (cf x y < 0 → (h = m ∨ lt (κ d[mid + m - 1 - h]!) (κ d[h]!) = true))) := by
     refine ⟨fun hv => .inr ?_, fun hv => .inr ?_⟩
     ·
      rw [show mid + m - (h + 1) = q by omega, Nat.add_sub_cancel, hx, hy]
      exact Bool.eq_false_iff.2 fun e => hv ((HCF.out x y).2 e)
     ·
      rw [show mid + m - 1 - h = q by omega, hx, hy]
      exact (HCF.out x y).1 hv
    have ex : ((q : Int) : Int).toNat = q := by omega
    have px : (0 : Int) ≤ ((q : Int) : Int) := by omega
    have bx : ((q : Int) : Int) < (d.size : Int) := by omega
    have rx : IntKind.i64.wrap ((q : Int) : Int) = ((q : Int) : Int) := by rw [IntKind.wrap_i64]; omega
    have eh : ((h : Int) : Int).toNat = h := by omega
    have ph : (0 : Int) ≤ ((h : Int) : Int) := by omega
    have bh : ((h : Int) : Int) < (d.size : Int) := by omega
    have rh : IntKind.i64.wrap ((h : Int) : Int) = ((h : Int) : Int) := by rw [IntKind.wrap_i64]; omega
    have lj := S1.out.ld R (by omega) Try.prog q (by omega)
    have lp := S1.out.ld R (by omega) Try.prog h (by omega)
    rw [hx] at lj
    rw [hy] at lp
    have hcg := S1.out.cmp HC.out (by omega) x y
    clear hx hy HX2
    by_cases hv : cf x y < 0
    ·
     have hdv : decide (cf x y < 0) = true := decide_eq_true hv
     go_wp2_with fail
     go_quiet_grown (first | (go_at_fn g; refine Calls.grown_of (hcg _ _)))
     have S2 : Aside (SWK enc k w0 blk off d (grow (wr.drewN nq) osq)) := S1.out.grown nq osq
     clear lj lp hcg S1
     generalize grow (wr.drewN nq) osq = w2 at S2 ⊢
     clear nq osq
     go_wp2
     go_roundg (h - i)
     case measure => omega
     case rel => exact ⟨i, h, rfl, by go_num, hmi, hih, by omega, Nat.le_refl _, (show Aside _ from ⟨HY.out.1, HP.out.2 hv⟩), S2⟩
    ·
     have hdv : decide (cf x y < 0) = false := decide_eq_false hv
     go_wp2_with fail
     go_quiet_grown (first | (go_at_fn g; refine Calls.grown_of (hcg _ _)))
     have S2 : Aside (SWK enc k w0 blk off d (grow (wr.drewN nq) osq)) := S1.out.grown nq osq
     clear lj lp hcg S1
     generalize grow (wr.drewN nq) osq = w2 at S2 ⊢
     clear nq osq
     go_wp2
     go_roundg (j - (h + 1))
     case measure => omega
     case rel => exact ⟨h + 1, j, by go_num, rfl, by omega, by omega, hjb, Nat.le_refl _, (show Aside _ from ⟨HP.out.1 hv, HY.out.2⟩), S2⟩
   ·
    have hltz : ¬ (i : Int) < (j : Int) := by omega
    have hij' : i = j := by omega
    subst hij'
    obtain ⟨X1, X2, Y1, Y2, HP⟩ : ∃ X1 X2 Y1 Y2 : List α, Aside (X = X1 ++ X2 ∧ Y = Y1 ++ Y2 ∧ a + X1.length = i ∧ m + Y1.length = mid + m - i ∧ Le κ lt X1 Y2 ∧ Lt κ lt Y1 X2) := by
     have hl := HX.out
     obtain ⟨X1, X2, Y1, Y2, h⟩ := parted o (d := d) (a := a) (m := m) (b := b) (mid := mid) (s := i) (s0 := a) (r0 := m) HD.out hl.1 hl.2.1 hl.2.2.1 SX.out.1 SX.out.2 hmid1 hmid2 (by omega) hmi hjb HY.out.1 HY.out.2
     exact ⟨X1, X2, Y1, Y2, h⟩
    have ue : IntKind.i64.wrap ((mid : Int) + (m : Int) - (i : Int)) = (mid : Int) + (m : Int) - (i : Int) := by rw [IntKind.wrap_i64]; omega
    have Q0 : Aside (SWK enc k w0 blk off d wr) := S1
    have ROT : Aside (i < m → i < mid → ∀ W, SWK enc k w0 blk off d W → Calls Try.prog 62 #[.slice (some ⟨blk, off, none⟩) d.size cap, .int .i64 i, .int .i64 m, .int .i64 ((mid : Int) + (m : Int) - (i : Int)), .func (.func g) #[] cb] W fun e w' => e = .returned (.tuple #[]) ∧ Aside (Q1 enc k w0 blk off A X1 Y1 X2 (Y2 ++ B) w')) := by
     intro c1 c2 W hW
     have hl := HX.out
     obtain ⟨p1, p2, p3, p4, p5, p6⟩ := HP.out
     have x2 : X1.length + X2.length = X.length := by rw [p1, List.length_append]
     have y2 : Y1.length + Y2.length = Y.length := by rw [p2, List.length_append]
     have h := rotate k zE enc g cb blk off cap i m (mid + m - i) d0 d w0 W R hl.2.2.2.1 hW (A ++ X1) X2 Y1 (Y2 ++ B) (by rw [HD.out, p1, p2]; simp) (by rw [List.length_append]; omega) (by omega) (by omega) (by omega) (by omega) (by omega)
     rw [show (((mid + m - i : Nat)) : Int) = (mid : Int) + (m : Int) - (i : Int) by omega] at h
     refine h.mono ?_
     rintro e w1 ⟨rfl, d1, g1, g2⟩
     exact ⟨rfl, (show Aside _ from ⟨d1, by rw [g1]; simp, g2⟩)⟩
    have NOROT : Aside (¬ (i < m ∧ i < mid) → ∀ W, SWK enc k w0 blk off d W → Aside (Q1 enc k w0 blk off A X1 Y1 X2 (Y2 ++ B) W)) := by
     intro c W hW
     have hl := HX.out
     obtain ⟨p1, p2, p3, p4, p5, p6⟩ := HP.out
     have x2 : X1.length + X2.length = X.length := by rw [p1, List.length_append]
     refine ⟨d, ?_, hW⟩
     rcases Nat.eq_zero_or_pos X2.length with q | q
     ·
      have q := List.eq_nil_of_length_eq_zero q
      subst q
      rw [HD.out, p1, p2]
      simp
     ·
      have q : Y1 = [] := List.eq_nil_of_length_eq_zero (by omega)
      subst q
      rw [HD.out, p1, p2]
      simp
    have ONE : Aside (a < i → i < mid → ∀ W, Q1 enc k w0 blk off A X1 Y1 X2 (Y2 ++ B) W → Calls Try.prog 60 #[.slice (some ⟨blk, off, none⟩) d.size cap, .int .i64 a, .int .i64 i, .int .i64 mid, .func (.func g) #[] cb] W fun e w' => e = .returned (.tuple #[]) ∧ Aside (Done enc k w0 blk off κ lt A (X1 ++ Y1) (X2 ++ (Y2 ++ B)) w')) := by
     rintro c1 c2 W ⟨d1, g1, g2⟩
     have hl := HX.out
     obtain ⟨p1, p2, p3, p4, p5, p6⟩ := HP.out
     have x2 : X1.length + X2.length = X.length := by rw [p1, List.length_append]
     have y2 : Y1.length + Y2.length = Y.length := by rw [p2, List.length_append]
     have hz : d1.size = d.size := by rw [← Array.length_toList, g1, ← Array.length_toList, HD.out, p1, p2]; simp only [List.length_append]; omega
     have sX := SX.out.1
     have sY := SX.out.2
     rw [p1] at sX
     rw [p2] at sY
     have h := IH.out a i mid d1 W (by omega) g2 A X1 Y1 (X2 ++ (Y2 ++ B)) g1 hl.1 p3 (by omega) (by omega) (by omega) (sorted_app.1 sX).1 (sorted_app.1 sY).1 (by omega)
     rwa [hz] at h
    have NOONE : Aside (¬ (a < i ∧ i < mid) → ∀ W, Q1 enc k w0 blk off A X1 Y1 X2 (Y2 ++ B) W → Aside (Done enc k w0 blk off κ lt A (X1 ++ Y1) (X2 ++ (Y2 ++ B)) W)) := by
     rintro c W ⟨d1, g1, g2⟩
     have hl := HX.out
     obtain ⟨p1, p2, p3, p4, p5, p6⟩ := HP.out
     have sX := SX.out.1
     have sY := SX.out.2
     rw [p1] at sX
     rw [p2] at sY
     refine ⟨d1, X1 ++ Y1, by rw [g1]; simp, ?_, Same.refl _, g2⟩
     rcases Nat.eq_zero_or_pos X1.length with q | q
     ·
      have q := List.eq_nil_of_length_eq_zero q
      subst q
      exact (sorted_app.1 sY).1
     ·
      have q : Y1 = [] := List.eq_nil_of_length_eq_zero (by omega)
      subst q
      rw [List.append_nil]
      exact (sorted_app.1 sX).1
    have TWO : Aside (mid < mid + m - i → mid + m - i < b → ∀ W, Done enc k w0 blk off κ lt A (X1 ++ Y1) (X2 ++ (Y2 ++ B)) W → Calls Try.prog 60 #[.slice (some ⟨blk, off, none⟩) d.size cap, .int .i64 mid, .int .i64 ((mid : Int) + (m : Int) - (i : Int)), .int .i64 b, .func (.func g) #[] cb] W fun e w' => e = .returned (.tuple #[]) ∧ Aside (Done enc k w0 blk off κ lt A (X ++ Y) B w')) := by
     rintro c1 c2 W ⟨d1, T, g1, g2, g3, g4⟩
     have hl := HX.out
     obtain ⟨p1, p2, p3, p4, p5, p6⟩ := HP.out
     have x2 : X1.length + X2.length = X.length := by rw [p1, List.length_append]
     have y2 : Y1.length + Y2.length = Y.length := by rw [p2, List.length_append]
     have tl := Same.len o g3
     rw [List.length_append] at tl
     have hz : d1.size = d.size := by rw [← Array.length_toList, g1, ← Array.length_toList, HD.out, p1, p2]; simp only [List.length_append]; omega
     have sX := SX.out.1
     have sY := SX.out.2
     rw [p1] at sX
     rw [p2] at sY
     have h := IH.out mid (mid + m - i) b d1 W (by omega) g4 (A ++ T) X2 Y2 B (by rw [g1]; simp) (by rw [List.length_append]; omega) (by omega) (by omega) (by omega) (by omega) (sorted_app.1 sX).2.1 (sorted_app.1 sY).2.1 (by omega)
     rw [hz, show (((mid + m - i : Nat)) : Int) = (mid : Int) + (m : Int) - (i : Int) by omega] at h
     refine h.mono ?_
     rintro e w1 ⟨rfl, h2⟩
     refine ⟨rfl, (show Aside _ from ?_)⟩
     obtain ⟨d2, T2, f1, f2, f3, f4⟩ := h2.out
     have q := four o sX sY p5 p6 g2 g3 f2 f3
     exact ⟨d2, T ++ T2, by rw [f1]; simp, q.1, by rw [p1, p2]; exact q.2, f4⟩
    have NOTWO : Aside (¬ (mid < mid + m - i ∧ mid + m - i < b) → ∀ W, Done enc k w0 blk off κ lt A (X1 ++ Y1) (X2 ++ (Y2 ++ B)) W → Aside (Done enc k w0 blk off κ lt A (X ++ Y) B W)) := by
     rintro c W ⟨d1, T, g1, g2, g3, g4⟩
     have hl := HX.out
     obtain ⟨p1, p2, p3, p4, p5, p6⟩ := HP.out
     have x2 : X1.length + X2.length = X.length := by rw [p1, List.length_append]
     have y2 : Y1.length + Y2.length = Y.length := by rw [p2, List.length_append]
     have sX := SX.out.1
     have sY := SX.out.2
     rw [p1] at sX
     rw [p2] at sY
     have s2 : Sorted κ lt (X2 ++ Y2) := by
      rcases Nat.eq_zero_or_pos X2.length with q | q
      ·
       have q := List.eq_nil_of_length_eq_zero q
       subst q
       exact (sorted_app.1 sY).2.1
      ·
       have q : Y2 = [] := List.eq_nil_of_length_eq_zero (by omega)
       subst q
       rw [List.append_nil]
       exact (sorted_app.1 sX).2.1
     have q := four o sX sY p5 p6 g2 g3 s2 (Same.refl _)
     exact ⟨d1, T ++ (X2 ++ Y2), by rw [g1]; simp, q.1, by rw [p1, p2]; exact q.2, g4⟩
    clear HY S1 HP
    by_cases k1 : i < m
    ·
     by_cases k3 : a < i
     ·
      by_cases k4 : mid + m - i < b
      ·
       have z1 : (i : Int) < (m : Int) := by omega
       have z2 : (m : Int) < (mid : Int) + (m : Int) - (i : Int) := by omega
       have z3 : (i : Int) < (mid : Int) := by omega
       have z4 : (a : Int) < (i : Int) := by omega
       have z6 : (mid : Int) + (m : Int) - (i : Int) < (b : Int) := by omega
       have z5 : (mid : Int) < (mid : Int) + (m : Int) - (i : Int) := by omega
       have HC1 := asd (ROT.out (by omega) (by omega) _ Q0.out)
       clear ROT NOROT Q0
       go_wp2_with (first | (go_at_call 62; refine HC1.out.mono ?_; clear HC1; rintro e w1 ⟨rfl, Q1_⟩; have HC2 := asd (ONE.out (by omega) (by omega) _ Q1_.out); clear Q1_ ONE NOONE) | (go_at_call 60; refine HC2.out.mono ?_; clear HC2; rintro e w2 ⟨rfl, Q2_⟩; have HC3 := asd (TWO.out (by omega) (by omega) _ Q2_.out); clear Q2_ TWO NOTWO) | (go_at_call 60; refine HC3.out.mono ?_; clear HC3; rintro e w3 ⟨rfl, Q3_⟩))
       all_goals (go_end0; exact ⟨rfl, Q3_⟩)
      ·
       have z1 : (i : Int) < (m : Int) := by omega
       have z2 : (m : Int) < (mid : Int) + (m : Int) - (i : Int) := by omega
       have z3 : (i : Int) < (mid : Int) := by omega
       have z4 : (a : Int) < (i : Int) := by omega
       have z6 : ¬ ((mid : Int) + (m : Int) - (i : Int) < (b : Int)) := by omega
       have z5 : (mid : Int) < (mid : Int) + (m : Int) - (i : Int) := by omega
       have HC1 := asd (ROT.out (by omega) (by omega) _ Q0.out)
       clear ROT NOROT Q0
       go_wp2_with (first | (go_at_call 62; refine HC1.out.mono ?_; clear HC1; rintro e w1 ⟨rfl, Q1_⟩; have HC2 := asd (ONE.out (by omega) (by omega) _ Q1_.out); clear Q1_ ONE NOONE) | (go_at_call 60; refine HC2.out.mono ?_; clear HC2; rintro e w2 ⟨rfl, Q2_⟩; have Q3_ := NOTWO.out (by omega) _ Q2_.out; clear Q2_ TWO NOTWO))
       all_goals (go_end0; exact ⟨rfl, Q3_⟩)
     ·
      by_cases k4 : mid + m - i < b
      ·
       have z1 : (i : Int) < (m : Int) := by omega
       have z2 : (m : Int) < (mid : Int) + (m : Int) - (i : Int) := by omega
       have z3 : (i : Int) < (mid : Int) := by omega
       have z4 : ¬ ((a : Int) < (i : Int)) := by omega
       have z6 : (mid : Int) + (m : Int) - (i : Int) < (b : Int) := by omega
       have z5 : (mid : Int) < (mid : Int) + (m : Int) - (i : Int) := by omega
       have HC1 := asd (ROT.out (by omega) (by omega) _ Q0.out)
       clear ROT NOROT Q0
       go_wp2_with (first | (go_at_call 62; refine HC1.out.mono ?_; clear HC1; rintro e w1 ⟨rfl, Q1_⟩; have Q2_ := NOONE.out (by omega) _ Q1_.out; clear Q1_ ONE NOONE; have HC3 := asd (TWO.out (by omega) (by omega) _ Q2_.out); clear Q2_ TWO NOTWO) | (go_at_call 60; refine HC3.out.mono ?_; clear HC3; rintro e w3 ⟨rfl, Q3_⟩))
       all_goals (go_end0; exact ⟨rfl, Q3_⟩)
      ·
       have z1 : (i : Int) < (m : Int) := by omega
       have z2 : (m : Int) < (mid : Int) + (m : Int) - (i : Int) := by omega
       have z3 : (i : Int) < (mid : Int) := by omega
       have z4 : ¬ ((a : Int) < (i : Int)) := by omega
       have z6 : ¬ ((mid : Int) + (m : Int) - (i : Int) < (b : Int)) := by omega
       have z5 : (mid : Int) < (mid : Int) + (m : Int) - (i : Int) := by omega
       have HC1 := asd (ROT.out (by omega) (by omega) _ Q0.out)
       clear ROT NOROT Q0
       go_wp2_with (first | (go_at_call 62; refine HC1.out.mono ?_; clear HC1; rintro e w1 ⟨rfl, Q1_⟩; have Q2_ := NOONE.out (by omega) _ Q1_.out; clear Q1_ ONE NOONE; have Q3_ := NOTWO.out (by omega) _ Q2_.out; clear Q2_ TWO NOTWO))
       all_goals (go_end0; exact ⟨rfl, Q3_⟩)
    ·
     by_cases k2 : i < mid
     ·
      have z1 : ¬ ((i : Int) < (m : Int)) := by omega
      have z2 : (m : Int) < (mid : Int) + (m : Int) - (i : Int) := by omega
      have z3 : (i : Int) < (mid : Int) := by omega
      have z5 : ¬ ((mid : Int) < (mid : Int) + (m : Int) - (i : Int)) := by omega
      have Q1_ := NOROT.out (by omega) _ Q0.out
      clear ROT NOROT Q0
      have HC2 := asd (ONE.out (by omega) (by omega) _ Q1_.out)
      clear Q1_ ONE NOONE
      go_wp2_with (first | (go_at_call 60; refine HC2.out.mono ?_; clear HC2; rintro e w2 ⟨rfl, Q2_⟩; have Q3_ := NOTWO.out (by omega) _ Q2_.out; clear Q2_ TWO NOTWO))
      all_goals (go_end0; exact ⟨rfl, Q3_⟩)
     ·
      have z1 : ¬ ((i : Int) < (m : Int)) := by omega
      have z2 : ¬ ((m : Int) < (mid : Int) + (m : Int) - (i : Int)) := by omega
      have z3 : ¬ ((i : Int) < (mid : Int)) := by omega
      have z5 : ¬ ((mid : Int) < (mid : Int) + (m : Int) - (i : Int)) := by omega
      have Q1_ := NOROT.out (by omega) _ Q0.out
      clear ROT NOROT Q0
      have Q2_ := NOONE.out (by omega) _ Q1_.out
      clear Q1_ ONE NOONE
      have Q3_ := NOTWO.out (by omega) _ Q2_.out
      clear Q2_ TWO NOTWO
      go_wp2
      all_goals (go_end0; exact ⟨rfl, Q3_⟩)
end Go.Proofs.Ytklhjponikgkkaa.St
end
section
namespace Go.Proofs.Ytklhjponikgkkaa.St
open Go.Shelf Go.RowKit Go.Lib Go.Sort Go.Proofs
set_option linter.unusedSimpArgs false
set_option linter.unusedVariables false
set_option linter.unusedSectionVars false
variable {α K : Type} [Inhabited α] [DecidableEq K]
def Chunks (κ : α → K) (lt : K → K → Bool) (s : Nat) (Cs : List (List α)) : Prop := ∀ C ∈ Cs, C.length = s ∧ Sorted κ lt C
theorem Chunks.snoc {κ : α → K} {lt : K → K → Bool} {s : Nat} {Cs : List (List α)} {C : List α} (h : Chunks κ lt s Cs) (h1 : C.length = s) (h2 : Sorted κ lt C) : Chunks κ lt s (Cs ++ [C]) := fun D hD => by
 rcases List.mem_append.1 hD with e | e
 ·
  exact h D e
 ·
  rw [List.mem_singleton.1 e]
  exact ⟨h1, h2⟩
set_option maxHeartbeats 16000000 in
set_option maxRecDepth 1000000 in
theorem stableSort (k : Nat) (zE : ∀ w, (Go.sizeOf 56).run Try.prog w = .ok k w) (enc : α → List Value) {κ : α → K} {lt : K → K → Bool} (o : Ord lt) (cf : α → α → Int) (hcf : ∀ x y, cf x y < 0 ↔ lt (κ x) (κ y) = true) (g : Nat) (cb : Array Value)
 (eg : ∀ args w, (callFunc g args).run Try.prog w = .ok (.enter g args) w) (blk off cap : Nat) (d : Array α) (w : World) (hcmp : CmpLays Try.prog g cb enc k cf blk off d.size w)
 (R : RowK enc k w blk off d) (hsz : d.size < 1152921504606846976) :
 Calls Try.prog 52 #[.slice (some ⟨blk, off, none⟩) d.size cap, .int .i64 d.size, .func (.func g) #[] cb] w fun e w' => e = .returned (.tuple #[]) ∧ ∃ d' : Array α, Sorted κ lt d'.toList ∧ Same κ d'.toList d.toList ∧ SWK enc k w blk off d' w' := by
 have t3 := Try.underlying3; have a3 := Try.isAgg3; have z3 := Try.sizeOf3; have v3 := Try.zeroValue3
 have t4 := Try.underlying4; have a4 := Try.isAgg4; have z4 := Try.sizeOf4; have v4 := Try.zeroValue4
 obtain ⟨n, hn⟩ : ∃ n, n = d.size := ⟨_, rfl⟩
 have HN : Aside (n = d.size) := hn
 have hnz : n < 1152921504606846976 := by omega
 have INS : Aside (∀ (a b : Nat) (dk : Array α) (W : World) (A T B : List α), dk.size = d.size → SWK enc k w blk off dk W → dk.toList = A ++ (T ++ B) → A.length = a → a + T.length = b → Calls Try.prog 59 #[.slice (some ⟨blk, off, none⟩) n cap, .int .i64 a, .int .i64 b, .func (.func g) #[] cb] W fun e w' => e = .returned (.tuple #[]) ∧ Aside (Done enc k w blk off κ lt A T B w')) := by
  intro a b dk W A T B h1 h2 h3 h4 h5
  have h := insertSort k zE enc o cf hcf g cb eg blk off cap a b d dk w W hcmp R h1.symm h2 A T B h3 h4 h5 (by omega)
  rw [h1, ← hn] at h
  refine h.mono ?_
  rintro e w1 ⟨rfl, d', T', q1, q2, q3, q4⟩
  exact ⟨rfl, (show Aside _ from ⟨d', T', q1, q2, q3, q4⟩)⟩
 have MER : Aside (∀ (a m b : Nat) (dk : Array α) (W : World) (A X Y B : List α), dk.size = d.size → SWK enc k w blk off dk W → dk.toList = A ++ (X ++ (Y ++ B)) → A.length = a → a + X.length = m → m + Y.length = b → 0 < X.length → 0 < Y.length → Sorted κ lt X → Sorted κ lt Y → Calls Try.prog 60 #[.slice (some ⟨blk, off, none⟩) n cap, .int .i64 a, .int .i64 m, .int .i64 b, .func (.func g) #[] cb] W fun e w' => e = .returned (.tuple #[]) ∧ Aside (Done enc k w blk off κ lt A (X ++ Y) B w')) := by
  intro a m b dk W A X Y B h1 h2 h3 h4 h5 h6 h7 h8 h9 h10
  have h := symMerge k zE enc o cf hcf g cb eg blk off cap d w hcmp R (by omega) (b - a) a m b dk W h1.symm h2 A X Y B h3 h4 h5 h6 h7 h8 h9 h10 (Nat.le_refl _)
  rw [h1, ← hn] at h
  exact h
 have SZ : Aside (∀ {d1 : Array α}, Same κ d1.toList d.toList → d1.size = d.size) := fun {d1} h => by rw [← Array.length_toList, ← Array.length_toList]; exact Same.len o h
 have S0 : Aside (SWK enc k w blk off d w) := SWK.start R.hH
 rw [← hn]
 clear hn hsz hcmp hcf eg
 go_enter Try.func52, Try.ntmps52
 go_wp2
 go_loopg [7, 8] n (fun kx s7 s8 wr => ∃ (a b : Nat), s7 = .int .i64 a ∧ s8 = .int .i64 b ∧ a + 20 ≤ b ∧ b ≤ a + 20 ∧ a ≤ n ∧ n - a ≤ kx ∧
  Aside (∃ (dk : Array α) (Cs : List (List α)) (R : List α), dk.toList = Cs.flatten ++ R ∧ Cs.flatten.length = a ∧ Chunks κ lt 20 Cs ∧ Same κ dk.toList d.toList ∧ SWK enc k w blk off dk wr))
 case atStart => exact ⟨0, 20, by go_num, by go_num, by omega, by omega, Nat.zero_le _, by omega, (show Aside _ from ⟨d, [], d.toList, rfl, rfl, fun C hC => absurd hC (by simp), Same.refl _, S0⟩)⟩
 case round =>
  clear S0
  obtain ⟨a, b, rfl, rfl, hab, hba, han, hkx, HR⟩ := hrel
  by_cases hlt : b ≤ n
  ·
   have hltz : (b : Int) ≤ (n : Int) := by omega
   have HC := asd (show Calls Try.prog 59 #[.slice (some ⟨blk, off, none⟩) n cap, .int .i64 a, .int .i64 b, .func (.func g) #[] cb] wr fun e w' => e = .returned (.tuple #[]) ∧ Aside (∃ (dk : Array α) (Cs : List (List α)) (R : List α), dk.toList = Cs.flatten ++ R ∧ Cs.flatten.length = b ∧ Chunks κ lt 20 Cs ∧ Same κ dk.toList d.toList ∧ SWK enc k w blk off dk w') by
    obtain ⟨dk, Cs, Rr, h1, h2, h3, h4, h5⟩ := HR.out
    have hz := SZ.out h4
    have hN := HN.out
    have hl : Cs.flatten.length + Rr.length = dk.size := by rw [← Array.length_toList, h1, List.length_append]
    refine (INS.out a b dk wr Cs.flatten (Rr.take 20) (Rr.drop 20) hz h5 (by rw [h1, List.take_append_drop]) h2 (by rw [List.length_take]; omega)).mono ?_
    rintro e w1 ⟨rfl, q⟩
    obtain ⟨d', T, f1, f2, f3, f4⟩ := q.out
    have hT := Same.len o f3
    rw [List.length_take] at hT
    refine ⟨rfl, (show Aside _ from ⟨d', Cs ++ [T], Rr.drop 20, by rw [f1]; simp, by simp only [List.flatten_append, List.length_append, List.flatten_cons, List.flatten_nil, List.append_nil]; omega, h3.snoc (by omega) f2, ?_, f4⟩)⟩
    refine Same.trans ?_ h4
    rw [f1, h1]
    have := (Same.refl (κ := κ) Cs.flatten).app (f3.app (Same.refl (Rr.drop 20)))
    rwa [List.take_append_drop] at this)
   clear HR
   go_wp2_with (go_at_call 59; refine HC.out.mono ?_; clear HC; rintro e w1 ⟨rfl, HR⟩)
   go_roundg (n - b)
   case measure => omega
   case rel => exact ⟨b, b + 20, rfl, by go_num, Nat.le_refl _, Nat.le_refl _, hlt, Nat.le_refl _, HR⟩
  ·
   have hltz : ¬ (b : Int) ≤ (n : Int) := by omega
   have HC := asd (show Calls Try.prog 59 #[.slice (some ⟨blk, off, none⟩) n cap, .int .i64 a, .int .i64 n, .func (.func g) #[] cb] wr fun e w' => e = .returned (.tuple #[]) ∧ Aside (∃ (dk : Array α) (Cs : List (List α)) (R : List α), dk.toList = Cs.flatten ++ R ∧ Chunks κ lt 20 Cs ∧ R.length < 20 ∧ Sorted κ lt R ∧ Same κ dk.toList d.toList ∧ SWK enc k w blk off dk w') by
    obtain ⟨dk, Cs, Rr, h1, h2, h3, h4, h5⟩ := HR.out
    have hz := SZ.out h4
    have hN := HN.out
    have hl : Cs.flatten.length + Rr.length = dk.size := by rw [← Array.length_toList, h1, List.length_append]
    refine (INS.out a n dk wr Cs.flatten Rr [] hz h5 (by rw [h1, List.append_nil]) h2 (by omega)).mono ?_
    rintro e w1 ⟨rfl, q⟩
    obtain ⟨d', T, f1, f2, f3, f4⟩ := q.out
    have hT := Same.len o f3
    refine ⟨rfl, (show Aside _ from ⟨d', Cs, T, by rw [f1]; simp, h3, by omega, f2, ?_, f4⟩)⟩
    refine Same.trans ?_ h4
    rw [f1, h1, List.append_nil]
    exact (Same.refl (κ := κ) Cs.flatten).app f3)
   clear HR
   go_wp2_with (go_at_call 59; refine HC.out.mono ?_; clear HC; rintro e w1 ⟨rfl, HR⟩)
   clear hab hba han hkx hlt hltz
   go_loopg [6] n (fun kx s6 wr => ∃ (s : Nat), s6 = .int .i64 s ∧ 20 ≤ s ∧ s ≤ 2 * n + 20 ∧ n - s ≤ kx ∧
    Aside (∃ (dk : Array α) (Cs : List (List α)) (R : List α), dk.toList = Cs.flatten ++ R ∧ Chunks κ lt s Cs ∧ R.length < s ∧ Sorted κ lt R ∧ Same κ dk.toList d.toList ∧ SWK enc k w blk off dk wr))
   case atStart => exact ⟨20, by go_num, Nat.le_refl _, by omega, by omega, HR⟩
   case round =>
    clear HR
    obtain ⟨s, rfl, hs1, hs2, hkx, HR⟩ := hrel
    by_cases hlt : s < n
    ·
     have hltz : (s : Int) < (n : Int) := by omega
     have HR0 := asd (show ∃ (dk : Array α) (Ds Cs : List (List α)) (R : List α), dk.toList = Ds.flatten ++ (Cs.flatten ++ R) ∧ Ds.flatten.length = 0 ∧ Chunks κ lt (2 * s) Ds ∧ Chunks κ lt s Cs ∧ R.length < s ∧ Sorted κ lt R ∧ Same κ dk.toList d.toList ∧ SWK enc k w blk off dk wr by
      obtain ⟨dk, Cs, Rr, h1, h2, h3, h4, h5, h6⟩ := HR.out
      exact ⟨dk, [], Cs, Rr, by rw [h1]; rfl, rfl, fun C hC => absurd hC (by simp), h2, h3, h4, h5, h6⟩)
     clear HR
     go_wp2
     go_loopg [7, 8] n (fun kx s7 s8 wr => ∃ (a b : Nat), s7 = .int .i64 a ∧ s8 = .int .i64 b ∧ a + 2 * s ≤ b ∧ b ≤ a + 2 * s ∧ a ≤ n ∧ n - a ≤ kx ∧
      Aside (∃ (dk : Array α) (Ds Cs : List (List α)) (R : List α), dk.toList = Ds.flatten ++ (Cs.flatten ++ R) ∧ Ds.flatten.length = a ∧ Chunks κ lt (2 * s) Ds ∧ Chunks κ lt s Cs ∧ R.length < s ∧ Sorted κ lt R ∧ Same κ dk.toList d.toList ∧ SWK enc k w blk off dk wr))
     case atStart => exact ⟨0, 2 * s, by go_num, by go_num, by omega, by omega, Nat.zero_le _, by omega, HR0⟩
     case round =>
      clear HR0
      obtain ⟨a, b, rfl, rfl, hab, hba, han, hkx2, HR⟩ := hrel
      by_cases hlt2 : b ≤ n
      ·
       have hltz2 : (b : Int) ≤ (n : Int) := by omega
       have HC := asd (show Calls Try.prog 60 #[.slice (some ⟨blk, off, none⟩) n cap, .int .i64 a, .int .i64 ((a : Int) + (s : Int)), .int .i64 b, .func (.func g) #[] cb] wr fun e w' => e = .returned (.tuple #[]) ∧ Aside (∃ (dk : Array α) (Ds Cs : List (List α)) (R : List α), dk.toList = Ds.flatten ++ (Cs.flatten ++ R) ∧ Ds.flatten.length = b ∧ Chunks κ lt (2 * s) Ds ∧ Chunks κ lt s Cs ∧ R.length < s ∧ Sorted κ lt R ∧ Same κ dk.toList d.toList ∧ SWK enc k w blk off dk w') by
        obtain ⟨dk, Ds, Cs, Rr, h1, h2, h3, h4, h5, h6, h7, h8⟩ := HR.out
        have hz := SZ.out h7
        have hN := HN.out
        have hl : Ds.flatten.length + (Cs.flatten.length + Rr.length) = dk.size := by rw [← Array.length_toList, h1, List.length_append, List.length_append]
        match Cs, h4, h1, hl with
        | [], h4, h1, hl => rw [List.flatten_nil, List.length_nil] at hl; omega
        | [C1], h4, h1, hl =>
         have c1 := h4 C1 (by simp)
         rw [List.flatten_cons, List.flatten_nil, List.append_nil] at hl
         omega
        | C1 :: C2 :: Cs, h4, h1, hl =>
         have c1 := h4 C1 (by simp)
         have c2 := h4 C2 (by simp)
         have h := MER.out a (a + s) b dk wr Ds.flatten C1 C2 (Cs.flatten ++ Rr) hz h8 (by rw [h1]; simp) h2 (by omega) (by omega) (by omega) (by omega) c1.2 c2.2
         rw [show (((a + s : Nat)) : Int) = (a : Int) + (s : Int) by omega] at h
         refine h.mono ?_
         rintro e w1 ⟨rfl, q⟩
         obtain ⟨d', T, f1, f2, f3, f4⟩ := q.out
         have hT := Same.len o f3
         rw [List.length_append] at hT
         refine ⟨rfl, (show Aside _ from ⟨d', Ds ++ [T], Cs, Rr, by rw [f1]; simp, by simp only [List.flatten_append, List.length_append, List.flatten_cons, List.flatten_nil, List.append_nil]; omega, h3.snoc (by omega) f2, fun C hC => h4 C (by simp [hC]), h5, h6, ?_, f4⟩)⟩
         refine Same.trans ?_ h7
         rw [f1, h1]
         have := (Same.refl (κ := κ) Ds.flatten).app (f3.app (Same.refl (Cs.flatten ++ Rr)))
         simpa using this)
       clear HR
       go_wp2_with (go_at_call 60; refine HC.out.mono ?_; clear HC; rintro e w1 ⟨rfl, HR⟩)
       go_roundg (n - b)
       case measure => omega
       case rel => exact ⟨b, b + 2 * s, rfl, by go_num, Nat.le_refl _, Nat.le_refl _, hlt2, Nat.le_refl _, HR⟩
      ·
       have hltz2 : ¬ (b : Int) ≤ (n : Int) := by omega
       by_cases hm : a + s < n
       ·
        have hmz : (a : Int) + (s : Int) < (n : Int) := by omega
        have HC := asd (show Calls Try.prog 60 #[.slice (some ⟨blk, off, none⟩) n cap, .int .i64 a, .int .i64 ((a : Int) + (s : Int)), .int .i64 n, .func (.func g) #[] cb] wr fun e w' => e = .returned (.tuple #[]) ∧ Aside (∃ (dk : Array α) (Cs : List (List α)) (R : List α), dk.toList = Cs.flatten ++ R ∧ Chunks κ lt (s * 2) Cs ∧ R.length < s * 2 ∧ Sorted κ lt R ∧ Same κ dk.toList d.toList ∧ SWK enc k w blk off dk w') by
         obtain ⟨dk, Ds, Cs, Rr, h1, h2, h3, h4, h5, h6, h7, h8⟩ := HR.out
         have hz := SZ.out h7
         have hN := HN.out
         have hl : Ds.flatten.length + (Cs.flatten.length + Rr.length) = dk.size := by rw [← Array.length_toList, h1, List.length_append, List.length_append]
         match Cs, h4, h1, hl with
         | [], h4, h1, hl => rw [List.flatten_nil, List.length_nil] at hl; omega
         | [C1], h4, h1, hl =>
          have c1 := h4 C1 (by simp)
          rw [List.flatten_cons, List.flatten_nil, List.append_nil] at hl h1
          have h := MER.out a (a + s) n dk wr Ds.flatten C1 Rr [] hz h8 (by rw [h1]; simp) h2 (by omega) (by omega) (by omega) (by omega) c1.2 h6
          rw [show (((a + s : Nat)) : Int) = (a : Int) + (s : Int) by omega] at h
          refine h.mono ?_
          rintro e w1 ⟨rfl, q⟩
          obtain ⟨d', T, f1, f2, f3, f4⟩ := q.out
          have hT := Same.len o f3
          rw [List.length_append] at hT
          refine ⟨rfl, (show Aside _ from ⟨d', Ds, T, by rw [f1]; simp, by rw [Nat.mul_comm]; exact h3, by omega, f2, ?_, f4⟩)⟩
          refine Same.trans ?_ h7
          rw [f1, h1, List.append_nil]
          exact (Same.refl (κ := κ) Ds.flatten).app f3
         | C1 :: C2 :: Cs, h4, h1, hl =>
          have c1 := h4 C1 (by simp)
          have c2 := h4 C2 (by simp)
          rw [List.flatten_cons, List.flatten_cons, List.length_append, List.length_append] at hl
          omega)
        clear HR
        go_wp2_with (go_at_call 60; refine HC.out.mono ?_; clear HC; rintro e w1 ⟨rfl, HR⟩)
        go_roundg (n - s * 2)
        case measure => omega
        case rel => exact ⟨s * 2, by go_num, by omega, by omega, Nat.le_refl _, HR⟩
       ·
        have hmz : ¬ (a : Int) + (s : Int) < (n : Int) := by omega
        have HR2 := asd (show ∃ (dk : Array α) (Cs : List (List α)) (R : List α), dk.toList = Cs.flatten ++ R ∧ Chunks κ lt (s * 2) Cs ∧ R.length < s * 2 ∧ Sorted κ lt R ∧ Same κ dk.toList d.toList ∧ SWK enc k w blk off dk wr by
         obtain ⟨dk, Ds, Cs, Rr, h1, h2, h3, h4, h5, h6, h7, h8⟩ := HR.out
         have hz := SZ.out h7
         have hN := HN.out
         have hl : Ds.flatten.length + (Cs.flatten.length + Rr.length) = dk.size := by rw [← Array.length_toList, h1, List.length_append, List.length_append]
         match Cs, h4, h1, hl with
         | [], h4, h1, hl => exact ⟨dk, Ds, Rr, by rw [h1]; rfl, by rw [Nat.mul_comm]; exact h3, by omega, h6, h7, h8⟩
         | [C1], h4, h1, hl =>
          have c1 := h4 C1 (by simp)
          rw [List.flatten_cons, List.flatten_nil, List.append_nil] at hl h1
          have : Rr = [] := List.eq_nil_of_length_eq_zero (by omega)
          subst this
          exact ⟨dk, Ds, C1, by rw [h1]; simp, by rw [Nat.mul_comm]; exact h3, by omega, c1.2, h7, h8⟩
         | C1 :: C2 :: Cs, h4, h1, hl =>
          have c1 := h4 C1 (by simp)
          have c2 := h4 C2 (by simp)
          rw [List.flatten_cons, List.flatten_cons, List.length_append, List.length_append] at hl
          omega)
        clear HR
        go_wp2
        go_roundg (n - s * 2)
        case measure => omega
        case rel => exact ⟨s * 2, by go_num, by omega, by omega, Nat.le_refl _, HR2⟩
    ·
     have hltz : ¬ (s : Int) < (n : Int) := by omega
     go_wp2
     go_end0
     obtain ⟨dk, Cs, Rr, h1, h2, h3, h4, h5, h6⟩ := HR.out
     refine ⟨rfl, dk, ?_, h5, h6⟩
     have hz := SZ.out h5
     have hN := HN.out
     have hl : Cs.flatten.length + Rr.length = dk.size := by rw [← Array.length_toList, h1, List.length_append]
     rw [h1]
     match Cs, h2, hl with
     | [], h2, hl => exact h4
     | [C1], h2, hl =>
      have c1 := h2 C1 (by simp)
      rw [List.flatten_cons, List.flatten_nil, List.append_nil] at hl ⊢
      have : Rr = [] := List.eq_nil_of_length_eq_zero (by omega)
      subst this
      rw [List.append_nil]
      exact c1.2
     | C1 :: C2 :: Cs, h2, hl =>
      have c1 := h2 C1 (by simp)
      have c2 := h2 C2 (by simp)
      rw [List.flatten_cons, List.flatten_cons, List.length_append, List.length_append] at hl
      omega
end Go.Proofs.Ytklhjponikgkkaa.St
end
section
namespace Go.Proofs.Ytklhjponikgkkaa.St
open Go.Shelf Go.RowKit Go.Lib Go.Sort Go.Proofs Go.Proofs.Ytklhjponikgkkaa.X Go.Proofs.YtklhjponikgkkaaW.PrintWords Go.Proofs.YtklhjponikgkkaaW.PrintLast Go.Proofs.YtklhjponikgkkaaW.PrintMore
set_option linter.unusedSimpArgs false
set_option linter.unusedSectionVars false
set_option linter.unusedVariables false
instance : Inhabited S56 := ⟨z56⟩
def enc56 (x : S56) : List Value := [.int .i64 x.f0, .string x.f1, .int .i64 x.f2.f0, .int .i64 x.f2.f1.f0, .bool x.f2.f1.f1, .int .i64 x.f2.f2, .int .i64 x.f2.f3]
theorem enc56_one (x : S56) : ∀ v ∈ enc56 x, v.oneCell' = true := by
 intro v hv
 unfold enc56 at hv
 simp only [List.mem_cons, List.not_mem_nil, or_false] at hv
 rcases hv with rfl | rfl | rfl | rfl | rfl | rfl | rfl <;> rfl
def cmp56 (x y : S56) : Int := Lib.compareBytes x.f1.data.toList y.f1.data.toList
theorem flat_get (l : List S56) (t : Nat) (ht : t < l.length * 7) : (flatK enc56 7 l.toArray)[t]! = (enc56 (l.toArray[t / 7]!))[t % 7]! := get_flatK enc56 7 l.toArray t (by simpa using ht)
theorem flat_size (l : List S56) : (flatK enc56 7 l.toArray).size = l.length * 7 := by rw [size_flatK]; simp
theorem flat_of_reps {w : World} {b : Nat} {ok : Nat → Prop} {l : List S56} {cs : List Value} (h : Reps (k56.M w b ok) 7 l cs) : cs = (flatK enc56 7 l.toArray).toList := by
 have hl := h.1
 apply List.ext_getElem
 ·
  have : (flatK enc56 7 l.toArray).toList.length = l.length * 7 := by rw [Array.length_toList, flat_size]
  rw [hl, this]
 ·
  intro t h1 h2
  have ht : t < l.length * 7 := by omega
  have hq : t / 7 < l.length := by omega
  have hr := k56_openM (h.2 (t / 7) l[t / 7] (List.getElem?_eq_getElem hq))
  have e1 : (flatK enc56 7 l.toArray).toList[t] = (flatK enc56 7 l.toArray)[t]! := by
   rw [Array.getElem_toList]
   exact (getElem!_pos _ _ _).symm
  rw [e1, flat_get l t ht]
  have e2 : l.toArray[t / 7]! = l[t / 7] := by simp [hq]
  rw [e2]
  have e3 : enc56 l[t / 7] = (cs.drop (t / 7 * 7)).take 7 := hr.symm
  rw [e3]
  have e4 : t = t / 7 * 7 + t % 7 := by omega
  have e5 : ((cs.drop (t / 7 * 7)).take 7)[t % 7]! = cs[t / 7 * 7 + t % 7]! := by
   simp only [List.getElem!_eq_getElem?_getD, List.getElem?_take, List.getElem?_drop]
   rw [if_pos (by omega)]
  rw [e5, ← e4]
  exact (getElem!_pos _ _ _).symm
theorem reps_of_flat (w : World) (b : Nat) (ok : Nat → Prop) (l : List S56) : Reps (k56.M w b ok) 7 l (flatK enc56 7 l.toArray).toList := by
 refine ⟨by rw [Array.length_toList, flat_size], fun j p hj => ?_⟩
 have hlt := (List.getElem?_eq_some_iff.1 hj).1
 have hp : l.toArray[j]! = p := by
  have := (List.getElem?_eq_some_iff.1 hj).2
  simp [hlt, this]
 have : (((flatK enc56 7 l.toArray).toList.drop (j * 7)).take 7) = enc56 p := by
  apply List.ext_getElem
  ·
   rw [List.length_take, List.length_drop, Array.length_toList, flat_size]
   show _ = 7
   omega
  ·
   intro t h1 h2
   have ht : t < 7 := h2
   rw [List.getElem_take, List.getElem_drop, Array.getElem_toList]
   rw [← getElem!_pos (flatK enc56 7 l.toArray), flat_get l _ (by omega), show (j * 7 + t) / 7 = j by omega, show (j * 7 + t) % 7 = t by omega, hp]
   exact getElem!_pos _ _ _
 rw [this]
 exact k56_mkM w b ok p
theorem holds_flat {w : World} {g : Nat} {cur : Array Value} {e : TypeId} {F : Array Value} (hb : w.heap[g]? = some (.cells cur e (0, 0))) (ht : cur.toList.take F.size = F.toList) : Holds id w g 0 F := by
 intro j hj
 refine ⟨?_, by simp [World.frozen?, hb]⟩
 have h1 : (cur.toList.take F.size)[j]? = F.toList[j]? := by rw [ht]
 rw [List.getElem?_take_of_lt hj] at h1
 simp only [World.cell?, hb, Nat.zero_add]
 simp only [Option.isSome_none, Bool.false_eq_true, if_false]
 rw [← Array.getElem?_toList, h1]
 simp [hj]
theorem heap_flat {w : World} {g n : Nat} {os : Array Obj} {cur : Array Value} {e : TypeId} {fr : Nat × Nat} (F : Array Value) (hb : w.heap[g]? = some (.cells cur e fr)) :
 (grow (putRow id (Sort.ahead w n) g 0 F) os).heap[g]? = some (.cells (putCells id 0 F cur) e fr) := by
 have hg : g < w.heap.size := (Array.getElem?_eq_some_iff.1 hb).1
 rw [heap_grow_old _ _ (by simpa using hg)]
 simp [putRow, mapBlock, Sort.ahead, Array.getElem?_modify, hb, onCells]
theorem grown_flat {w : World} {g n : Nat} {os : Array Obj} (F : Array Value) : w.grownBy (grow (putRow id (Sort.ahead w n) g 0 F) os) (some g) := by
 refine ⟨rfl, rfl, rfl, by simp, fun k hk hne => ?_⟩
 rw [heap_grow_old _ _ (by simpa using hk)]
 have : g ≠ k := fun e => hne (by rw [e])
 simp [putRow, mapBlock, Sort.ahead, Array.getElem?_modify, this]
theorem take_flat (cur F : Array Value) (h : F.size ≤ cur.size) : (putCells id 0 F cur).toList.take F.size = F.toList := by
 apply List.ext_getElem?
 intro j
 by_cases hj : j < F.size
 ·
  rw [List.getElem?_take_of_lt hj, Array.getElem?_toList]
  simp [putCells, hj, show j < cur.size by omega]
 ·
  rw [List.getElem?_take_eq_none (by omega), List.getElem?_eq_none (by simp; omega)]
theorem cmp34 (blk off size : Nat) (w : World) : CmpLays Try.prog 34 #[] enc56 7 cmp56 blk off size w := by
 intro m os dk _ x y
 generalize sortWorldK enc56 7 w blk off m dk os = W
 have hu56 := Try.underlying56
 have t3 := Try.underlying3; have a3 := Try.isAgg3; have z3 := Try.sizeOf3; have v3 := Try.zeroValue3
 unfold enc56
 go_enter Try.func34, Try.ntmps34
 go_wp2_with (go_at_call 35; refine (Try.strings_Compare _ _ _).mono ?_; rintro e w1 ⟨rfl, rfl⟩)
 go_ret
 refine ⟨rfl, ?_⟩
 first
 | exact ⟨0, _, by rw [alloc_eq_grow, alloc_eq_grow, grow_grow]; rfl⟩
 | exact ⟨1, _, by rw [alloc_eq_grow, alloc_eq_grow, grow_grow]; rfl⟩
 | exact ⟨2, _, by rw [alloc_eq_grow, alloc_eq_grow, grow_grow]; rfl⟩
end Go.Proofs.Ytklhjponikgkkaa.St
end
