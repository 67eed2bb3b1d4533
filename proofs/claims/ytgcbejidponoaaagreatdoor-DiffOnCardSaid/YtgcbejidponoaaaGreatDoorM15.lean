/- Plain facts on what the printed functions compute, joined; each says its conditions. -/
import Derived.Test.YtgcbejidponoaaaGreatDoorM1
import Derived.Test.YtgcbejidponoaaaGreatDoorM3
import Derived.Test.YtgcbejidponoaaaGreatDoorM5
import Derived.Test.YtgcbejidponoaaaGreatDoorM10
import Derived.Test.YtgcbejidponoaaaGreatDoorM4
import Derived.Lib.IndexMore
import Derived.Test.YtgcbejidponoaaaGreatDoorM11
import Derived.Test.YtgcbejidponoaaaGreatDoorM6
import Derived.Test.YtgcbejidponoaaaGreatDoorM8
import Derived.Test.YtgcbejidponoaaaGreatDoorM7
import Derived.Test.YtgcbejidponoaaaGreatDoorM14
import Derived.Test.YtgcbejidponoaaaGreatDoorM13
section
namespace Go.Proofs.YtgcbejidponoaaaGreatDoor.Pure
open Go.RowKit Go.Proofs.YtgcbejidponoaaaGreatDoor.X Go.Proofs.YtgcbejidponoaaaGreatDoorW.PrintWords Go.Proofs.YtgcbejidponoaaaGreatDoorW.PrintLast Go.Proofs.YtgcbejidponoaaaGreatDoorW.PrintMore Go.Proofs.YtgcbejidponoaaaGreatDoor.Aid Go.Proofs.YtgcbejidponoaaaGreatDoor.Bytes
def I64 (a : Int) : Prop := -9223372036854775808 ≤ a ∧ a ≤ 9223372036854775807
abbrev Rw := S45
theorem rdR {l : List Rw} {i : Nat} (h : i < l.length) : rd_T45 l (i : Int) = l[i] := getD_at h _
def GRow (x : Rw) : Prop := I64 x.f0 ∧ x.f1.size ≤ 1000 ∧ I64 x.f2.f0
end Go.Proofs.YtgcbejidponoaaaGreatDoor.Pure
end
section
namespace Go.Proofs.YtgcbejidponoaaaGreatDoor.Ord
open Go.Proofs.YtgcbejidponoaaaGreatDoor.Bytes
abbrev T := List UInt8
abbrev less (a b : T) : Bool := Op.bytesLess a b
theorem less_cons (a b : UInt8) (x y : T) : less (a :: x) (b :: y) = (decide (a < b) || (a == b && less x y)) := rfl
theorem lt_nat {a b : UInt8} : a < b ↔ a.toNat < b.toNat := UInt8.lt_iff_toNat_lt
theorem eq_nat {a b : UInt8} : a = b ↔ a.toNat = b.toNat := ⟨fun h => by rw [h], fun h => UInt8.toNat_inj.mp h⟩
theorem less_iff (a b : UInt8) (x y : T) : less (a :: x) (b :: y) = true ↔ a.toNat < b.toNat ∨ (a = b ∧ less x y = true) := by
 rw [less_cons, Bool.or_eq_true, Bool.and_eq_true, decide_eq_true_eq, beq_iff_eq, lt_nat]
theorem less_nil (a : T) : less a [] = false := by cases a <;> rfl
theorem nil_less (b : UInt8) (y : T) : less [] (b :: y) = true := rfl
theorem irrefl : ∀ a : T, less a a = false
 | [] => rfl
 | a :: x => by
  rw [Bool.eq_false_iff]
  intro h
  rcases (less_iff a a x x).mp h with h | ⟨_, h⟩
  ·
   omega
  ·
   rw [irrefl x] at h
   cases h
theorem trans : ∀ {a b c : T}, less a b = true → less b c = true → less a c = true
 | _, [], _, h, _ => by rw [less_nil] at h; cases h
 | _, _ :: _, [], _, h => by rw [less_nil] at h; cases h
 | [], _ :: _, c :: z, _, _ => nil_less c z
 | a :: x, b :: y, c :: z, h1, h2 => by
  rw [less_iff] at h1 h2 ⊢
  rcases h1 with h1 | ⟨e1, h1⟩
  ·
   rcases h2 with h2 | ⟨e2, _⟩
   ·
    exact .inl (by omega)
   ·
    rw [eq_nat] at e2
    exact .inl (by omega)
  ·
   subst e1
   rcases h2 with h2 | ⟨e2, h2⟩
   ·
    exact .inl h2
   ·
    exact .inr ⟨e2, trans h1 h2⟩
theorem total : ∀ a b : T, less a b = true ∨ a = b ∨ less b a = true
 | [], [] => .inr (.inl rfl)
 | [], b :: y => .inl (nil_less b y)
 | a :: x, [] => .inr (.inr (nil_less a x))
 | a :: x, b :: y => by
  rw [less_iff, less_iff]
  rcases Nat.lt_trichotomy a.toNat b.toNat with h | h | h
  ·
   exact .inl (.inl h)
  ·
   have e := eq_nat.mpr h
   subst e
   rcases total x y with h | h | h
   ·
    exact .inl (.inr ⟨rfl, h⟩)
   ·
    exact .inr (.inl (by rw [h]))
   ·
    exact .inr (.inr (.inr ⟨rfl, h⟩))
  ·
   exact .inr (.inr (.inl h))
theorem asymm {a b : T} (h : less a b = true) : less b a = false := by
 rw [Bool.eq_false_iff]
 intro h2
 have := trans h h2
 rw [irrefl] at this
 cases this
theorem ne_of {a b : T} (h : less a b = true) : a ≠ b := by
 intro e
 subst e
 rw [irrefl] at h
 cases h
theorem cmp_cases : ∀ a b : T, (less a b = true ∧ Lib.compareBytes a b = -1) ∨ (a = b ∧ Lib.compareBytes a b = 0) ∨ (less b a = true ∧ Lib.compareBytes a b = 1)
 | [], [] => .inr (.inl ⟨rfl, rfl⟩)
 | [], b :: y => .inl ⟨nil_less b y, rfl⟩
 | a :: x, [] => .inr (.inr ⟨nil_less a x, rfl⟩)
 | a :: x, b :: y => by
  unfold Lib.compareBytes
  rcases Nat.lt_trichotomy a.toNat b.toNat with h | h | h
  ·
   exact .inl ⟨(less_iff a b x y).mpr (.inl h), if_pos (lt_nat.mpr h)⟩
  ·
   have e := eq_nat.mpr h
   subst e
   rw [if_neg (fun h => by rw [lt_nat] at h; omega), if_neg (fun h => by rw [lt_nat] at h; omega)]
   rcases cmp_cases x y with ⟨h1, h2⟩ | ⟨h1, h2⟩ | ⟨h1, h2⟩
   ·
    exact .inl ⟨(less_iff a a x y).mpr (.inr ⟨rfl, h1⟩), h2⟩
   ·
    exact .inr (.inl ⟨by rw [h1], h2⟩)
   ·
    exact .inr (.inr ⟨(less_iff a a y x).mpr (.inr ⟨rfl, h1⟩), h2⟩)
  ·
   refine .inr (.inr ⟨(less_iff b a y x).mpr (.inl h), ?_⟩)
   rw [if_neg (fun h2 => by rw [lt_nat] at h2; omega), if_pos (lt_nat.mpr h)]
theorem cmp_neg (a b : T) : (Lib.compareBytes a b < 0) ↔ less a b = true := by
 rcases cmp_cases a b with ⟨h1, h2⟩ | ⟨h1, h2⟩ | ⟨h1, h2⟩
 ·
  rw [h1, h2]; simp
 ·
  subst h1
  rw [h2, irrefl]; simp
 ·
  rw [h2, asymm h1]; simp
theorem cmp_zero (a b : T) : (Lib.compareBytes a b = 0) ↔ a = b := by
 rcases cmp_cases a b with ⟨h1, h2⟩ | ⟨h1, h2⟩ | ⟨h1, h2⟩
 ·
  rw [h2]
  exact ⟨fun h => absurd h (by decide), fun h => absurd h (ne_of h1)⟩
 ·
  rw [h2]
  exact ⟨fun _ => h1, fun _ => rfl⟩
 ·
  rw [h2]
  exact ⟨fun h => absurd h (by decide), fun h => absurd h.symm (ne_of h1)⟩
theorem not_less {a b c : T} (h1 : less a b = false) (h2 : less b c = false) : less a c = false := by
 rw [Bool.eq_false_iff]
 intro h
 rcases total a b with h3 | h3 | h3
 ·
  rw [h3] at h1; cases h1
 ·
  subst h3
  rw [h] at h2; cases h2
 ·
  have := trans h3 h
  rw [this] at h2; cases h2
theorem less_of {a b : T} (h1 : less b a = false) (h2 : a ≠ b) : less a b = true := by
 rcases total a b with h | h | h
 ·
  exact h
 ·
  exact absurd h h2
 ·
  rw [h] at h1; cases h1
end Go.Proofs.YtgcbejidponoaaaGreatDoor.Ord
end
section
namespace Go.Proofs.YtgcbejidponoaaaGreatDoor.Ord
open Go.Proofs.YtgcbejidponoaaaGreatDoor.Bytes
section
variable {α : Type} (nm : α → T)
def insR (y : α) : List α → List α
 | [] => [y]
 | z :: r => if less (nm y) (nm z) = true then z :: insR y r else y :: z :: r
def isR : List α → List α → List α
 | p, [] => p.reverse
 | p, y :: r => isR (insR nm y p) r
def adj : List α → Bool
 | x :: y :: r => if nm x = nm y then true else adj (y :: r)
 | _ => false
def insL (y : α) : List α → Option (List α)
 | [] => some [y]
 | z :: r => if less (nm z) (nm y) = true then (insL y r).map (z :: ·) else if nm z = nm y then none else some (y :: z :: r)
def refS : List α → List α → Option (List α)
 | out, [] => some out
 | out, y :: r => (insL nm y out).bind fun o => refS o r
theorem insR_len (y : α) : ∀ p, (insR nm y p).length = p.length + 1
 | [] => rfl
 | z :: r => by
  unfold insR
  split
  ·
   rw [List.length_cons, insR_len y r, List.length_cons]
  ·
   rfl
theorem insR_perm (y : α) : ∀ p, (insR nm y p).Perm (y :: p)
 | [] => List.Perm.refl _
 | z :: r => by
  unfold insR
  split
  ·
   exact ((insR_perm y r).cons z).trans (List.Perm.swap y z r)
  ·
   exact List.Perm.refl _
theorem isR_perm : ∀ (r p : List α), (isR nm p r).Perm (p ++ r)
 | [], p => by
  rw [isR, List.append_nil]
  exact List.reverse_perm p
 | y :: r, p => by
  rw [isR]
  exact (isR_perm r _).trans (((insR_perm nm y p).append_right r).trans List.perm_middle.symm)
def Fall (p : List α) : Prop := p.Pairwise fun a b => less (nm a) (nm b) = false
def Drop (p : List α) : Prop := p.Pairwise fun a b => less (nm b) (nm a) = true
def Rise (p : List α) : Prop := p.Pairwise fun a b => less (nm a) (nm b) = true
theorem drop_fall {p : List α} (h : Drop nm p) : Fall nm p := h.imp fun h => asymm h
theorem drop_rise {p : List α} : Rise nm p.reverse ↔ Drop nm p := List.pairwise_reverse
theorem insR_fall (y : α) : ∀ {p : List α}, Fall nm p → Fall nm (insR nm y p)
 | [], _ => List.pairwise_singleton _ _
 | z :: r, h => by
  have h1 := List.pairwise_cons.mp h
  unfold insR
  by_cases c : less (nm y) (nm z) = true
  ·
   rw [if_pos c]
   refine List.pairwise_cons.mpr ⟨fun b hb => ?_, insR_fall y h1.2⟩
   rcases List.mem_cons.mp ((insR_perm nm y r).subset hb) with rfl | hb
   ·
    exact asymm c
   ·
    exact h1.1 b hb
  ·
   rw [if_neg c]
   have c' := Bool.eq_false_iff.mpr c
   refine List.pairwise_cons.mpr ⟨fun b hb => ?_, h⟩
   rcases List.mem_cons.mp hb with rfl | hb
   ·
    exact c'
   ·
    exact not_less c' (h1.1 b hb)
theorem isR_fall : ∀ (r : List α) {p : List α}, Fall nm p → Fall nm (isR nm p r).reverse
 | [], p, h => by
  rw [isR, List.reverse_reverse]
  exact h
 | y :: r, p, h => by
  rw [isR]
  exact isR_fall r (insR_fall nm y h)
theorem insR_drop (y : α) {p : List α} (h : Drop nm p) (hn : ∀ x ∈ p, nm x ≠ nm y) : Drop nm (insR nm y p) := by
 have h1 := insR_fall nm y (drop_fall nm h)
 have hnd : ((insR nm y p).map nm).Nodup := by
  refine (((insR_perm nm y p).map nm).nodup_iff).mpr ?_
  rw [List.map_cons]
  refine List.nodup_cons.mpr ⟨fun hm => ?_, ?_⟩
  ·
   obtain ⟨x, hx, e⟩ := List.mem_map.mp hm
   exact hn x hx e
  ·
   exact List.pairwise_map.mpr (h.imp fun h => (ne_of h).symm)
 have h2 : (insR nm y p).Pairwise fun a b => nm a ≠ nm b := List.pairwise_map.mp hnd
 exact (h1.and h2).imp fun ⟨h3, h4⟩ => less_of h3 h4.symm
theorem rise_of : ∀ {l : List α}, (l.Pairwise fun a b => less (nm b) (nm a) = false) → adj nm l = false → Rise nm l
 | [], _, _ => List.Pairwise.nil
 | [x], _, _ => List.pairwise_singleton _ _
 | x :: y :: r, h, ha => by
  have h1 := List.pairwise_cons.mp h
  unfold adj at ha
  by_cases c : nm x = nm y
  ·
   rw [if_pos c] at ha
   cases ha
  ·
   rw [if_neg c] at ha
   have ih := rise_of h1.2 ha
   have hxy := less_of (h1.1 y List.mem_cons_self) c
   refine List.pairwise_cons.mpr ⟨fun b hb => ?_, ih⟩
   rcases List.mem_cons.mp hb with rfl | hb
   ·
    exact hxy
   ·
    exact trans hxy ((List.pairwise_cons.mp ih).1 b hb)
theorem adj_of : ∀ {l : List α}, Rise nm l → adj nm l = false
 | [], _ => rfl
 | [x], _ => rfl
 | x :: y :: r, h => by
  have h1 := List.pairwise_cons.mp h
  unfold adj
  rw [if_neg (ne_of (h1.1 y List.mem_cons_self))]
  exact adj_of h1.2
theorem isR_adj {p : List α} (hp : Fall nm p) (r : List α) (hd : ¬ ((p ++ r).map nm).Nodup) : adj nm (isR nm p r) = true := by
 cases h : adj nm (isR nm p r) with
 | true => rfl
 | false =>
 exfalso
 have hf : (isR nm p r).Pairwise fun a b => less (nm b) (nm a) = false := by
  have := isR_fall nm r hp
  unfold Fall at this
  rwa [List.pairwise_reverse] at this
 have hr := rise_of nm hf h
 have hn : ((isR nm p r).map nm).Nodup := List.pairwise_map.mpr (hr.imp fun h => ne_of h)
 exact hd ((((isR_perm nm r p).map nm).nodup_iff).mp hn)
theorem insL_none {y : α} : ∀ {l : List α}, Rise nm l → (∃ x ∈ l, nm x = nm y) → insL nm y l = none
 | [], _, h => by
  obtain ⟨x, hx, _⟩ := h
  cases hx
 | z :: r, h, ⟨x, hx, e⟩ => by
  have h1 := List.pairwise_cons.mp h
  unfold insL
  rcases List.mem_cons.mp hx with rfl | hx
  ·
   rw [e, irrefl, if_neg (by decide), if_pos rfl]
  ·
   have := h1.1 x hx
   rw [e] at this
   rw [if_pos this, insL_none h1.2 ⟨x, hx, e⟩]
   rfl
theorem insL_some {y : α} : ∀ {l : List α}, Rise nm l → (∀ x ∈ l, nm x ≠ nm y) → ∃ o, insL nm y l = some o ∧ o.Perm (y :: l) ∧ Rise nm o
 | [], _, _ => ⟨[y], rfl, List.Perm.refl _, List.pairwise_singleton _ _⟩
 | z :: r, h, hn => by
  have h1 := List.pairwise_cons.mp h
  unfold insL
  by_cases c : less (nm z) (nm y) = true
  ·
   obtain ⟨o, e, hp, hr⟩ := insL_some h1.2 (fun x hx => hn x (List.mem_cons_of_mem _ hx))
   rw [if_pos c, e]
   refine ⟨z :: o, rfl, (hp.cons z).trans (List.Perm.swap y z r), List.pairwise_cons.mpr ⟨fun b hb => ?_, hr⟩⟩
   rcases List.mem_cons.mp (hp.subset hb) with rfl | hb
   ·
    exact c
   ·
    exact h1.1 b hb
  ·
   have hne := hn z List.mem_cons_self
   have hyz := less_of (Bool.eq_false_iff.mpr c) (Ne.symm hne)
   rw [if_neg c, if_neg hne]
   refine ⟨y :: z :: r, rfl, List.Perm.refl _, List.pairwise_cons.mpr ⟨fun b hb => ?_, h⟩⟩
   rcases List.mem_cons.mp hb with rfl | hb
   ·
    exact hyz
   ·
    exact trans hyz (h1.1 b hb)
theorem rise_eq {a b : List α} (ha : Rise nm a) (hb : Rise nm b) (h : a.Perm b) : a = b := by
 refine h.eq_of_pairwise (fun x y _ _ h1 h2 => ?_) ha hb
 have := asymm h1
 rw [this] at h2
 cases h2
theorem both : ∀ (r : List α) {p : List α}, Drop nm p → refS nm p.reverse r = if adj nm (isR nm p r) = true then none else some (isR nm p r)
 | [], p, h => by
  have : adj nm p.reverse = false := adj_of nm ((drop_rise nm).mpr h)
  rw [refS, isR, this]
  rfl
 | y :: r, p, h => by
  have hrise := (drop_rise nm).mpr h
  rw [refS]
  by_cases c : ∃ x ∈ p, nm x = nm y
  ·
   obtain ⟨x, hx, e⟩ := c
   rw [insL_none nm hrise ⟨x, List.mem_reverse.mpr hx, e⟩, isR_adj nm (drop_fall nm h) (y :: r) (fun hd => by
    rw [List.map_append, List.map_cons] at hd
    have := (List.nodup_append.mp hd).2.2 (nm x) (List.mem_map.mpr ⟨x, hx, rfl⟩) (nm y) List.mem_cons_self
    exact this e)]
   rfl
  ·
   have hn : ∀ x ∈ p, nm x ≠ nm y := fun x hx e => c ⟨x, hx, e⟩
   obtain ⟨o, e, hp, hr⟩ := insL_some nm hrise (fun x hx => hn x (List.mem_reverse.mp hx))
   have hd := insR_drop nm y h hn
   have ho : o = (insR nm y p).reverse := by
    refine rise_eq nm hr ((drop_rise nm).mpr hd) ?_
    refine hp.trans (((List.reverse_perm p).cons y).trans ?_)
    exact (insR_perm nm y p).symm.trans (List.reverse_perm _).symm
   rw [e, Option.bind_some, ho, both r hd, isR]
end
end Go.Proofs.YtgcbejidponoaaaGreatDoor.Ord
end
section
namespace Go.Proofs.YtgcbejidponoaaaGreatDoor.Pure
open Go.RowKit Go.Proofs.YtgcbejidponoaaaGreatDoor.X Go.Proofs.YtgcbejidponoaaaGreatDoorW.PrintWords Go.Proofs.YtgcbejidponoaaaGreatDoorW.PrintLast Go.Proofs.YtgcbejidponoaaaGreatDoorW.PrintMore Go.Proofs.YtgcbejidponoaaaGreatDoor.Aid Go.Proofs.YtgcbejidponoaaaGreatDoor.Bytes
abbrev T := List UInt8
def bl (s : ByteArray) : T := s.data.toList
theorem bl_eta (s : ByteArray) : mk (bl s) = s := mk_eta s
theorem bl_len (s : ByteArray) : (bl s).length = s.size := by rw [← mk_size, bl_eta]
theorem join_eq {L : List T} {s : T} (hn : L.length ≤ 100000) (hj : (Lib.join L s).length ≤ 100000000) : word_Join.f (mk s) (L.map mk) = some (mk (Lib.join L s)) := by
 unfold word_Join.f strings_Join.f
 rw [List.length_map, map_mk, mk_data, if_pos ⟨by omega, by omega⟩]
 rfl
def tot (L : List T) : Nat := L.flatten.length
theorem tot_cons (x : T) (L : List T) : tot (x :: L) = x.length + tot L := by simp [tot]
theorem tail_cons (s x : T) (L : List T) : Lib.joinTail s (x :: L) = s ++ x ++ Lib.joinTail s L := by simp [Lib.joinTail]
theorem tail_len (s : T) (L : List T) : (Lib.joinTail s L).length = L.length * s.length + tot L := by
 induction L with
 | nil => simp [Lib.joinTail, tot]
 | cons x L ih =>
  have : Lib.joinTail s (x :: L) = s ++ x ++ Lib.joinTail s L := by simp [Lib.joinTail]
  rw [this, tot_cons, List.length_append, List.length_append, ih, List.length_cons, Nat.succ_mul]
  omega
theorem join_len (s : T) (L : List T) : (Lib.join L s).length ≤ L.length * s.length + tot L := by
 cases L with
 | nil => simp [Lib.join_nil]
 | cons x L =>
  rw [Lib.join_cons, List.length_append, tail_len, tot_cons, List.length_cons, Nat.succ_mul]
  omega
theorem rjoin_l0 {L : List T} {s : T} (hn : L.length ≤ 100000) (d : Nat) : ∀ (i k : Nat) (acc : T), i + d = L.length → d < k → 0 < i → acc.length + d * s.length + tot (L.drop i) ≤ 1000000000 →
 r02_Join.l0 k (mk s) (L.map mk) (mk acc) (i : Int) = some (mk (acc ++ Lib.joinTail s (L.drop i))) := by
 induction d with
 | zero =>
  intro i k acc hi hk _ _
  obtain ⟨k, rfl⟩ := succ_of hk
  simp only [r02_Join.l0, List.length_map]
  rw [if_neg (by omega), List.drop_of_length_le (by omega)]
  simp [Lib.joinTail]
 | succ d ih =>
  intro i k acc hi hk h0 hb
  obtain ⟨k, rfl⟩ := succ_of hk
  have hlt : i < L.length := by omega
  rw [drop_at hlt, tot_cons, Nat.succ_mul] at hb
  simp only [r02_Join.l0, List.length_map]
  rw [if_pos (by omega), if_pos (by omega), mk_append, rds hlt, mk_append, mk_size, mk_size, mk_size, mk_size, List.length_append, if_pos (by omega), if_pos (by omega), if_pos (by omega), w64s (by omega), ih (i + 1) k _ (by omega) (by omega) (by omega) (by rw [List.length_append, List.length_append]; omega), drop_at hlt, tail_cons]
  simp only [List.append_assoc]
theorem rjoin_eq {L : List T} {s : T} (hn : L.length ≤ 100000) (hs : s.length ≤ 10) (ht : tot L ≤ 100000000) {k : Nat} (hk : L.length + 1 < k) : r02_Join.f k (mk s) (L.map mk) = some (mk (Lib.join L s)) := by
 obtain ⟨k, rfl⟩ := succ_of (show 0 < k by omega)
 have hm : L.length * s.length ≤ 100000 * 10 := Nat.mul_le_mul hn hs
 unfold r02_Join.f
 simp only [r02_Join.l0, List.length_map]
 cases L with
 | nil =>
  rw [if_neg (by simp)]
  rfl
 | cons x L =>
  rw [tot_cons] at ht
  rw [List.length_cons, Nat.succ_mul] at hm
  have he : ∀ y : ByteArray, (⟨#[]⟩ : ByteArray) ++ y = y := fun y => by
   have := mk_append [] y.data.toList
   rw [mk_eta, List.nil_append, mk_eta] at this
   exact this
  have hr : rdOf ByteArray.empty ((x :: L).map mk) 0 = mk x := rds (L := x :: L) (i := 0) (by simp)
  rw [if_pos (by simp only [List.length_cons]; omega), if_neg (by omega), if_pos (by omega), hr, he, mk_size, if_pos (by show 0 + x.length ≤ _; omega)]
  have h := rjoin_l0 (L := x :: L) (s := s) hn L.length 1 k x (by rw [List.length_cons]; omega) (by rw [List.length_cons] at hk; omega) (by omega) (by rw [List.drop_succ_cons, List.drop_zero]; omega)
  rw [List.drop_succ_cons, List.drop_zero, ← Lib.join_cons] at h
  rw [show wrap64 (0 + 1) = ((1 : Nat) : Int) from by unfold wrap64; omega]
  exact h
theorem tot_le (b : Nat) : ∀ (L : List T), (∀ x ∈ L, x.length ≤ b) → tot L ≤ L.length * b
 | [], _ => by simp [tot]
 | x :: L, h => by
  have h1 := h x List.mem_cons_self
  have h2 := tot_le b L (fun y hy => h y (List.mem_cons_of_mem _ hy))
  rw [tot_cons, List.length_cons, Nat.succ_mul]
  omega
end Go.Proofs.YtgcbejidponoaaaGreatDoor.Pure
end
section
namespace Go.Proofs.YtgcbejidponoaaaGreatDoor.Pure
open Go.RowKit Go.Proofs.YtgcbejidponoaaaGreatDoor.X Go.Proofs.YtgcbejidponoaaaGreatDoorW.PrintWords Go.Proofs.YtgcbejidponoaaaGreatDoorW.PrintLast Go.Proofs.YtgcbejidponoaaaGreatDoorW.PrintMore Go.Proofs.YtgcbejidponoaaaGreatDoor.Aid Go.Proofs.YtgcbejidponoaaaGreatDoor.Bytes
def glue (p : T) : List T → List T
 | [] => [p]
 | h :: t => (p ++ h) :: t
def spl (c : UInt8) : T → List T
 | [] => [[]]
 | x :: l => if x = c then [] :: spl c l else glue [x] (spl c l)
theorem spl_cons (c x : UInt8) (l : T) : spl c (x :: l) = if x = c then [] :: spl c l else glue [x] (spl c l) := rfl
theorem spl_ne (c : UInt8) (l : T) : spl c l ≠ [] := by
 cases l with
 | nil => simp [spl]
 | cons x l =>
  rw [spl_cons]
  split
  ·
   simp
  ·
   unfold glue
   split <;> simp
theorem glue_nil {L : List T} (h : L ≠ []) : glue [] L = L := by
 cases L with
 | nil => exact absurd rfl h
 | cons x L => rfl
theorem glue_glue (p q : T) (L : List T) : glue p (glue q L) = glue (p ++ q) L := by
 cases L with
 | nil => rfl
 | cons x L => simp [glue]
theorem spl_len (c : UInt8) (l : T) : (spl c l).length ≤ l.length + 1 := by
 induction l with
 | nil => simp [spl]
 | cons x l ih =>
  rw [spl_cons, List.length_cons]
  split
  ·
   rw [List.length_cons]; omega
  ·
   have := spl_ne c l
   cases h : spl c l with
   | nil => exact absurd h this
   | cons y L =>
    rw [h] at ih
    simp only [glue, List.length_cons] at ih ⊢
    omega
theorem idx_spl (c : UInt8) (l : T) : (Lib.indexByte l c = -1 ∧ spl c l = [l]) ∨ ∃ i : Nat, Lib.indexByte l c = (i : Int) ∧ i < l.length ∧ spl c l = l.take i :: spl c (l.drop (i + 1)) := by
 induction l with
 | nil => exact .inl ⟨rfl, rfl⟩
 | cons x l ih =>
  unfold Lib.indexByte
  rw [spl_cons]
  by_cases h : x = c
  ·
   rw [if_pos (beq_iff_eq.mpr h), if_pos h]
   exact .inr ⟨0, rfl, by simp, by simp⟩
  ·
   rw [if_neg (by simpa using h), if_neg h]
   rcases ih with ⟨h1, h2⟩ | ⟨i, h1, h2, h3⟩
   ·
    rw [h1, h2]
    exact .inl ⟨rfl, rfl⟩
   ·
    rw [h1, h3, if_neg (by simp only [beq_iff_eq]; omega)]
    exact .inr ⟨i + 1, by omega, by simp only [List.length_cons]; omega, by simp [glue]⟩
theorem split_l0 (c : UInt8) (n : Nat) : ∀ (l : T) (k : Nat) (acc : List ByteArray), l.length ≤ n → n + 1 < k → acc.length + n + 1 < 100000 → word_Split.l0 k (mk l) (c.toNat : Int) acc = some (acc ++ (spl c l).map mk) := by
 induction n with
 | zero =>
  intro l k acc hl hk ha
  obtain ⟨k, rfl⟩ := succ_of hk
  have e : l = [] := List.eq_nil_of_length_eq_zero (by omega)
  subst e
  simp only [word_Split.l0, strings_IndexByte.f, Option.bind_some, mk_data, byte_back]
  rw [if_pos (by simp [Lib.indexByte]), if_pos (by omega)]
  rfl
 | succ n ih =>
  intro l k acc hl hk ha
  obtain ⟨k, rfl⟩ := succ_of hk
  simp only [word_Split.l0, strings_IndexByte.f, Option.bind_some, mk_data, byte_back, mk_size]
  rcases idx_spl c l with ⟨h1, h2⟩ | ⟨i, h1, h2, h3⟩
  ·
   rw [h1, h2, if_pos (by decide), if_pos (by omega)]
   rfl
  ·
   have hw : wrap64 ((i : Int) + 1) = ((i + 1 : Nat) : Int) := w64s (by omega)
   rw [h1, if_neg (by omega), if_pos (by omega), if_pos (by omega), if_pos (by omega), hw, if_pos (by omega), if_pos (by omega), Int.toNat_natCast, Int.toNat_natCast, mk_upto]
   have he := mk_from l (i + 1)
   rw [mk_size] at he
   rw [he, ih (l.drop (i + 1)) k _ (by rw [List.length_drop]; omega) (by omega) (by rw [List.length_append, List.length_singleton]; omega), h3, List.map_cons, List.append_assoc]
   rfl
theorem split_eq (c : UInt8) {l : T} (hl : l.length ≤ 20000) (k : Nat) (hk : 20010 < k) : word_Split.f k (mk l) (c.toNat : Int) = some ((spl c l).map mk) :=
 split_l0 c 20000 l k [] hl (by omega) (by simp)
def okS (b : UInt8) : Bool := decide (97 ≤ b.toNat) && decide (b.toNat ≤ 122)
def okD (b : UInt8) : Bool := decide (48 ≤ b.toNat) && decide (b.toNat ≤ 57)
def okN (b : UInt8) : Bool := okS b || okD b || decide (b.toNat = 95)
def okV (b : UInt8) : Bool := okN b || decide (b.toNat = 45) || decide (b.toNat = 46)
def smallL : T := [97, 98, 99, 100, 101, 102, 103, 104, 105, 106, 107, 108, 109, 110, 111, 112, 113, 114, 115, 116, 117, 118, 119, 120, 121, 122]
def nameL : T := smallL ++ [48, 49, 50, 51, 52, 53, 54, 55, 56, 57, 95]
def valL : T := nameL ++ [45, 46]
theorem byte_all {p : UInt8 → Prop} (h : ∀ n, n < 256 → p (UInt8.ofNat n)) (b : UInt8) : p b := by
 have := h b.toNat b.toNat_lt
 rwa [UInt8.ofNat_toNat] at this
theorem name_ok (b : UInt8) : nameL.contains b = okN b := byte_all (p := fun b => nameL.contains b = okN b) (by decide +kernel) b
theorem val_ok (b : UInt8) : valL.contains b = okV b := byte_all (p := fun b => valL.contains b = okV b) (by decide +kernel) b
theorem small_ok (b : UInt8) : decide (Lib.indexByte smallL b ≥ 0) = okS b := byte_all (p := fun b => decide (Lib.indexByte smallL b ≥ 0) = okS b) (by decide +kernel) b
theorem dropW_nil (p : UInt8 → Bool) (l : T) : l.dropWhile p = [] ↔ l.all p = true := by
 induction l with
 | nil => simp
 | cons x l ih =>
  rw [List.dropWhile_cons, List.all_cons]
  by_cases h : p x = true
  ·
   rw [if_pos h, h, Bool.true_and]
   exact ih
  ·
   rw [if_neg h, Bool.eq_false_iff.mpr h, Bool.false_and]
   simp
theorem trim_nil (l cs : T) : Lib.trimS l cs = [] ↔ l.all (fun b => cs.contains b) = true := by
 unfold Lib.trimS Lib.trimLeftS Lib.trimRightS
 rw [dropW_nil]
 by_cases h : (l.reverse.dropWhile fun b => cs.contains b) = []
 ·
  have h2 := (dropW_nil _ _).mp h
  rw [List.all_reverse] at h2
  rw [h, h2]
  simp
 ·
  have h2 : ¬ l.all (fun b => cs.contains b) = true := fun e => h ((dropW_nil _ _).mpr (by rw [List.all_reverse]; exact e))
  rw [List.all_reverse]
  constructor
  ·
   intro e
   exfalso
   obtain ⟨x, r, hr⟩ := List.exists_cons_of_ne_nil h
   have hx : ¬ cs.contains x = true := by
    have := List.head_dropWhile_not (fun b => cs.contains b) h
    simp only [hr, List.head_cons] at this
    simpa using this
   rw [hr, List.all_cons] at e
   exact hx (by simpa using (Bool.and_eq_true_iff.mp e).1)
  ·
   intro e
   exact absurd e h2
def made (l cs : T) : Bool := decide (l ≠ []) && (decide (l.length ≤ 12) && l.all fun b => cs.contains b)
theorem made_eq {l cs : T} (hl : l.length ≤ 100000) (hc : cs.length ≤ 1000) (ha : cs.all (fun b => decide (b.toNat < 128)) = true) : word_made.f (mk l) (mk cs) = some (made l cs) := by
 unfold word_made.f made strings_Trim.f
 rw [mk_toList, mk_size, mk_size, mk_data, mk_data]
 by_cases h : l = []
 ·
  rw [if_pos h]
  simp [h]
 ·
  rw [if_neg h]
  by_cases h2 : (l.length : Int) ≤ 12
  ·
   rw [if_pos h2, if_pos ⟨by omega, by omega, ha⟩]
   simp only [Option.bind_some]
   have h3 : (⟨(Lib.trimS l cs).toArray⟩ : ByteArray) = mk (Lib.trimS l cs) := rfl
   rw [h3, mk_toList, decide_eq_true h, decide_eq_true (show l.length ≤ 12 by omega), Bool.true_and, Bool.true_and]
   congr 1
   rw [Bool.eq_iff_iff, beq_iff_eq]
   exact trim_nil l cs
  ·
   rw [if_neg h2, decide_eq_false (show ¬ l.length ≤ 12 by omega)]
   simp
def isVal (l : T) : Bool := decide (l ≠ []) && (decide (l.length ≤ 12) && l.all okV)
def isName (l : T) : Bool := decide (l ≠ []) && (decide (l.length ≤ 12) && l.all okN) && (match l with | [] => false | x :: _ => okS x)
theorem value_eq {l : T} (hl : l.length ≤ 100000) : word_Value.f (mk l) = some (isVal l) := by
 unfold word_Value.f
 have h : word_made.f (mk l) (mk valL) = some (made l valL) := made_eq hl (by decide) (by decide +kernel)
 have h2 : made l valL = isVal l := by
  unfold made isVal
  simp only [val_ok]
 rw [h2] at h
 have h3 : ∀ x, x = some (isVal l) → (x.bind fun t106 => (some t106 : Option Bool)) = some (isVal l) := fun x hx => by rw [hx]; rfl
 exact h3 _ h
theorem name_eq {l : T} (hl : l.length ≤ 100000) : word_Name.f (mk l) = some (isName l) := by
 unfold word_Name.f
 have h : word_made.f (mk l) (mk nameL) = some (made l nameL) := made_eq hl (by decide) (by decide +kernel)
 have h2 : made l nameL = (decide (l ≠ []) && (decide (l.length ≤ 12) && l.all okN)) := by
  unfold made
  simp only [name_ok]
 rw [h2] at h
 have h' : word_made.f (mk l) (⟨#[97, 98, 99, 100, 101, 102, 103, 104, 105, 106, 107, 108, 109, 110, 111, 112, 113, 114, 115, 116, 117, 118, 119, 120, 121, 122, 48, 49, 50, 51, 52, 53, 54, 55, 56, 57, 95]⟩ : ByteArray) = some (decide (l ≠ []) && (decide (l.length ≤ 12) && l.all okN)) := h
 rw [h']
 simp only [Option.bind_some]
 unfold isName
 by_cases c : (decide (l ≠ []) && (decide (l.length ≤ 12) && l.all okN)) = true
 ·
  rw [if_pos c, c, Bool.true_and]
  cases l with
  | nil => simp at c
  | cons x l =>
   rw [mk_size, if_pos (by simp only [List.length_cons]; omega)]
   have hb : bt (mk (x :: l)) 0 = (x.toNat : Int) := bt_mk (l := x :: l) (i := 0) (by simp)
   rw [hb]
   simp only [strings_IndexByte.f, Option.bind_some, byte_back]
   congr 1
   exact small_ok x
 ·
  rw [if_neg c, Bool.eq_false_iff.mpr c, Bool.false_and]
theorem rsmall_eq (b : UInt8) : r02_small.f (b.toNat : Int) = some (okS b) := by
 unfold r02_small.f okS
 by_cases h : 97 ≤ b.toNat
 ·
  rw [if_pos (by omega), decide_eq_true h, Bool.true_and]
  exact congrArg some (decide_eq_decide.mpr (by omega))
 ·
  rw [if_neg (by omega), decide_eq_false h, Bool.false_and]
theorem rdigit_eq (b : UInt8) : r02_digit.f (b.toNat : Int) = some (okD b) := by
 unfold r02_digit.f okD
 by_cases h : 48 ≤ b.toNat
 ·
  rw [if_pos (by omega), decide_eq_true h, Bool.true_and]
  exact congrArg some (decide_eq_decide.mpr (by omega))
 ·
  rw [if_neg (by omega), decide_eq_false h, Bool.false_and]
theorem rvalue_l0 {l : T} (hl : l.length ≤ 100000) (d : Nat) : ∀ (i k : Nat), i + d = l.length → d < k → r02_Value.l0 k (mk l) (i : Int) = some ((l.drop i).all okV) := by
 induction d with
 | zero =>
  intro i k hi hk
  obtain ⟨k, rfl⟩ := succ_of hk
  simp only [r02_Value.l0]
  rw [mk_size, if_neg (by omega), List.drop_of_length_le (by omega)]
  rfl
 | succ d ih =>
  intro i k hi hk
  obtain ⟨k, rfl⟩ := succ_of hk
  have hlt : i < l.length := by omega
  simp only [r02_Value.l0]
  rw [mk_size, if_pos (by omega), if_pos (by omega), bt_mk hlt, rsmall_eq, w64s (by omega), ih (i + 1) k (by omega) (by omega), drop_at hlt, List.all_cons, rdigit_eq]
  simp only [Option.bind_some]
  unfold okV okN
  by_cases h1 : okS l[i] = true
  ·
   rw [if_pos h1, h1]; simp
  ·
   rw [if_neg h1, Bool.eq_false_iff.mpr h1, Bool.false_or]
   by_cases h2 : okD l[i] = true
   ·
    rw [if_pos h2, h2]; simp
   ·
    rw [if_neg h2, Bool.eq_false_iff.mpr h2, Bool.false_or]
    by_cases h3 : l[i].toNat = 95
    ·
     rw [if_pos (by omega), decide_eq_true h3]; simp
    ·
     rw [if_neg (by omega), decide_eq_false h3, Bool.false_or]
     by_cases h4 : l[i].toNat = 45
     ·
      rw [if_pos (by omega), decide_eq_true h4]; simp
     ·
      rw [if_neg (by omega), decide_eq_false h4, Bool.false_or]
      by_cases h5 : l[i].toNat = 46
      ·
       rw [if_pos (by omega), decide_eq_true h5]; simp
      ·
       rw [if_neg (by omega), decide_eq_false h5]; simp
theorem rvalue_eq {l : T} (hl : l.length ≤ 100000) (k : Nat) (hk : l.length + 1 < k) : r02_Value.f k (mk l) = some (isVal l) := by
 obtain ⟨k, rfl⟩ := succ_of hk
 have h0 := rvalue_l0 hl l.length 0 k (by omega) (by omega)
 rw [show ((0 : Nat) : Int) = 0 from rfl, List.drop_zero] at h0
 unfold r02_Value.f isVal
 simp only [r02_Value.j0]
 rw [mk_size, h0]
 by_cases h1 : l = []
 ·
  rw [if_pos (by simp [h1]), if_pos trivial]
  simp [h1]
 ·
  have : l.length ≠ 0 := fun e => h1 (List.eq_nil_of_length_eq_zero e)
  rw [if_neg (by omega), decide_eq_true h1, Bool.true_and]
  by_cases h2 : l.length ≤ 12
  ·
   rw [if_neg (by simp; omega), decide_eq_true h2, Bool.true_and]
  ·
   rw [if_pos (by simp; omega), decide_eq_false h2, Bool.false_and]
theorem rname_l0 {l : T} (hl : l.length ≤ 100000) (d : Nat) : ∀ (i k : Nat), i + d = l.length → d < k → r02_Name.l0 k (mk l) (i : Int) = some ((l.drop i).all okN) := by
 induction d with
 | zero =>
  intro i k hi hk
  obtain ⟨k, rfl⟩ := succ_of hk
  simp only [r02_Name.l0]
  rw [mk_size, if_neg (by omega), List.drop_of_length_le (by omega)]
  rfl
 | succ d ih =>
  intro i k hi hk
  obtain ⟨k, rfl⟩ := succ_of hk
  have hlt : i < l.length := by omega
  simp only [r02_Name.l0]
  rw [mk_size, if_pos (by omega), if_pos (by omega), bt_mk hlt, rsmall_eq, w64s (by omega), ih (i + 1) k (by omega) (by omega), drop_at hlt, List.all_cons, rdigit_eq]
  simp only [Option.bind_some]
  unfold okN
  by_cases h1 : okS l[i] = true
  ·
   rw [if_pos h1, h1]; simp
  ·
   rw [if_neg h1, Bool.eq_false_iff.mpr h1, Bool.false_or]
   by_cases h2 : okD l[i] = true
   ·
    rw [if_pos h2, h2]; simp
   ·
    rw [if_neg h2, Bool.eq_false_iff.mpr h2, Bool.false_or]
    by_cases h3 : l[i].toNat = 95
    ·
     rw [if_pos (by omega), decide_eq_true h3]; simp
    ·
     rw [if_neg (by omega), decide_eq_false h3]; simp
theorem rname_eq {l : T} (hl : l.length ≤ 100000) (k : Nat) (hk : l.length + 1 < k) : r02_Name.f k (mk l) = some (isName l) := by
 obtain ⟨k, rfl⟩ := succ_of hk
 have h0 := rname_l0 hl l.length 0 k (by omega) (by omega)
 rw [show ((0 : Nat) : Int) = 0 from rfl, List.drop_zero] at h0
 unfold r02_Name.f isName
 simp only [r02_Name.j0]
 rw [mk_size, h0]
 cases l with
 | nil => rw [if_pos (by simp), if_pos trivial]; simp
 | cons x l =>
  have hb : bt (mk (x :: l)) 0 = (x.toNat : Int) := bt_mk (l := x :: l) (i := 0) (by simp)
  rw [if_neg (by simp only [List.length_cons]; omega), if_pos (show (0 : Int) < ((x :: l).length : Int) by simp only [List.length_cons]; omega), hb, rsmall_eq]
  simp only [Option.bind_some]
  rw [decide_eq_true (show x :: l ≠ [] by simp), Bool.true_and]
  by_cases h2 : (x :: l).length ≤ 12
  ·
   rw [if_neg (by omega), decide_eq_true h2, Bool.true_and]
   cases okS x with
   | true => simp
   | false => simp
  ·
   rw [if_pos (by omega), if_pos trivial, decide_eq_false h2]
   simp
end Go.Proofs.YtgcbejidponoaaaGreatDoor.Pure
end
section
namespace Go.Proofs.YtgcbejidponoaaaGreatDoor.Pure
open Go.RowKit Go.Proofs.YtgcbejidponoaaaGreatDoor.X Go.Proofs.YtgcbejidponoaaaGreatDoorW.PrintWords Go.Proofs.YtgcbejidponoaaaGreatDoorW.PrintLast Go.Proofs.YtgcbejidponoaaaGreatDoorW.PrintMore Go.Proofs.YtgcbejidponoaaaGreatDoor.Aid Go.Proofs.YtgcbejidponoaaaGreatDoor.Bytes
theorem join_glue (x : T) (L : List T) (hL : L ≠ []) (s : T) : Lib.join (glue x L) s = x ++ Lib.join L s := by
 cases L with
 | nil => exact absurd rfl hL
 | cons h t => rw [glue, Lib.join_cons, Lib.join_cons, List.append_assoc]
theorem join_spl (c : UInt8) (l : T) : Lib.join (spl c l) [c] = l := by
 induction l with
 | nil => rfl
 | cons x l ih =>
  rw [spl_cons]
  by_cases h : x = c
  ·
   rw [if_pos h]
   have hne := spl_ne c l
   cases hs : spl c l with
   | nil => exact absurd hs hne
   | cons y L =>
    rw [hs, Lib.join_cons] at ih
    rw [Lib.join_cons, Lib.joinTail, List.map_cons, List.flatten_cons, ← Lib.joinTail, List.nil_append, h, List.append_assoc, ih]
    rfl
  ·
   rw [if_neg h, join_glue [x] _ (spl_ne c l), ih]
   rfl
theorem spl_no (c : UInt8) (x : T) (h : c ∉ x) : spl c x = [x] := by
 induction x with
 | nil => rfl
 | cons y x ih =>
  rw [List.mem_cons, not_or] at h
  rw [spl_cons, if_neg (fun e => h.1 e.symm), ih h.2]
  rfl
theorem spl_app (c : UInt8) (x y : T) (h : c ∉ x) : spl c (x ++ c :: y) = x :: spl c y := by
 induction x with
 | nil => rw [List.nil_append, spl_cons, if_pos rfl]
 | cons z x ih =>
  rw [List.mem_cons, not_or] at h
  rw [List.cons_append, spl_cons, if_neg (fun e => h.1 e.symm), ih h.2]
  rfl
theorem rsplit_l0 (c : UInt8) {l : T} (hl : l.length ≤ 20000) (d : Nat) : ∀ (i from_ k : Nat) (acc : List T), i + d = l.length → from_ ≤ i → d < k → acc.length ≤ i →
 r02_Split.l0 k (mk l) (c.toNat : Int) (acc.map mk) (from_ : Int) (i : Int) = some ((acc ++ glue ((l.drop from_).take (i - from_)) (spl c (l.drop i))).map mk) := by
 induction d with
 | zero =>
  intro i f k acc hi hf hk ha
  obtain ⟨k, rfl⟩ := succ_of hk
  simp only [r02_Split.l0]
  have he := mk_from l f
  rw [mk_size] at he
  rw [mk_size, if_neg (by omega), if_pos (by omega), if_pos (by omega), List.length_map, if_pos (by omega), Int.toNat_natCast, he, List.drop_of_length_le (show l.length ≤ i by omega), List.take_of_length_le (by rw [List.length_drop]; omega)]
  simp [spl, glue]
 | succ d ih =>
  intro i f k acc hi hf hk ha
  obtain ⟨k, rfl⟩ := succ_of hk
  have hlt : i < l.length := by omega
  have hd : l.drop i = l[i] :: l.drop (i + 1) := drop_at hlt
  have hm : (acc.map mk) ++ [mk ((l.drop f).take (i - f))] = (acc ++ [(l.drop f).take (i - f)]).map mk := by simp
  have h1 := ih (i + 1) (i + 1) k (acc ++ [(l.drop f).take (i - f)]) (by omega) (Nat.le_refl _) (by omega) (by rw [List.length_append, List.length_singleton]; omega)
  have h2 := ih (i + 1) f k acc (by omega) (by omega) (by omega) (by omega)
  simp only [r02_Split.l0]
  rw [mk_size, if_pos (by omega), if_pos (by omega), bt_mk hlt, w64s (by omega), h2, hd, spl_cons]
  by_cases h : l[i] = c
  ·
   rw [if_pos (byte_eq.mpr h), if_pos h, if_pos (by omega), if_pos (by omega), if_pos (by omega), List.length_map, if_pos (by omega), Int.toNat_natCast, Int.toNat_natCast, mk_extract, hm, h1, Nat.sub_self, List.take_zero, glue_nil (spl_ne c _)]
   simp [glue]
  ·
   rw [if_neg (fun e => h (byte_eq.mp e)), if_neg h, glue_glue]
   have ht : (l.drop f).take (i + 1 - f) = (l.drop f).take (i - f) ++ [l[i]] := by
    have hj : i - f < (l.drop f).length := by rw [List.length_drop]; omega
    rw [show i + 1 - f = (i - f) + 1 by omega, take_at hj, List.getElem_drop]
    simp [show f + (i - f) = i by omega]
   rw [ht]
theorem rsplit_eq (c : UInt8) {l : T} (hl : l.length ≤ 20000) (k : Nat) (hk : 20010 < k) : r02_Split.f k (mk l) (c.toNat : Int) = some ((spl c l).map mk) := by
 have h := rsplit_l0 c hl l.length 0 0 k [] (by omega) (Nat.le_refl _) (by omega) (Nat.le_refl _)
 rw [List.drop_zero, Nat.sub_self, List.take_zero, glue_nil (spl_ne c l)] at h
 exact h
theorem spl_short (c : UInt8) : ∀ (l : T), ∀ p ∈ spl c l, p.length ≤ l.length
 | [], p, hp => by
  rw [show spl c [] = [[]] from rfl, List.mem_singleton] at hp
  rw [hp]
  exact Nat.le_refl _
 | x :: l, p, hp => by
  rw [spl_cons] at hp
  by_cases h : x = c
  ·
   rw [if_pos h] at hp
   rcases List.mem_cons.mp hp with rfl | hp
   ·
    exact Nat.zero_le _
   ·
    have := spl_short c l p hp
    rw [List.length_cons]
    omega
  ·
   rw [if_neg h] at hp
   have hne := spl_ne c l
   cases hq : spl c l with
   | nil => exact absurd hq hne
   | cons y L =>
    rw [hq] at hp
    unfold glue at hp
    rcases List.mem_cons.mp hp with rfl | hp
    ·
     have := spl_short c l y (by rw [hq]; exact List.mem_cons_self)
     simp only [List.length_append, List.length_cons, List.length_nil]
     omega
    ·
     have := spl_short c l p (by rw [hq]; exact List.mem_cons_of_mem _ hp)
     rw [List.length_cons]
     omega
end Go.Proofs.YtgcbejidponoaaaGreatDoor.Pure
end
section
namespace Go.Proofs.YtgcbejidponoaaaGreatDoor.Pure
open Go.RowKit Go.Proofs.YtgcbejidponoaaaGreatDoor.X Go.Proofs.YtgcbejidponoaaaGreatDoorW.PrintWords Go.Proofs.YtgcbejidponoaaaGreatDoorW.PrintLast Go.Proofs.YtgcbejidponoaaaGreatDoorW.PrintMore Go.Proofs.YtgcbejidponoaaaGreatDoor.Aid Go.Proofs.YtgcbejidponoaaaGreatDoor.Bytes
open Go.Proofs.YtgcbejidponoaaaGreatDoor.Ord (less insR isR adj insL refS)
abbrev Tg := S98
theorem bl_toList (s : ByteArray) : s.toList = bl s := ByteArray.toList_eq s
theorem rdT {l : List Tg} {i : Nat} (h : i < l.length) : rd_T98 l (i : Int) = l[i] := getD_at h _
def nm (x : Tg) : T := bl x.f0
theorem order_eq (x y : Tg) : tag_order.f x.f0 x.f1 y.f0 y.f1 = some (Lib.compareBytes (nm x) (nm y)) := rfl
theorem rd_mid {p q : List Tg} {y : Tg} {j : Nat} (hj : j = p.length) : rd_T98 (p ++ y :: q) (j : Int) = y := by
 subst hj
 rw [rdT (by rw [List.length_append, List.length_cons]; omega), List.getElem_append_right (Nat.le_refl _)]
 simp
theorem set_mid {p q : List Tg} {y v : Tg} {j : Nat} (hj : j = p.length) : (p ++ y :: q).set j v = p ++ v :: q := by
 subst hj
 rw [List.set_append_right _ _ (Nat.le_refl _), Nat.sub_self, List.set_cons_zero]
theorem ins_l1 {n : Nat} (R : List Tg) (i m : Nat) (hi : i < 1000000) : ∀ (p : List Tg) (y : Tg) (q : List Tg) (k : Nat),
 (∀ k', m ≤ k' → api_Tag_with_102_145.l0 k' ((insR nm y p).reverse ++ q) 0 (n : Int) ((i + 1 : Nat) : Int) = some R) → m + p.length + 1 ≤ k → p.length < 1000000 →
 api_Tag_with_102_145.l1 k (p.reverse ++ y :: q) 0 (n : Int) (i : Int) (p.length : Int) = some R
 | [], y, q, k, h, hk, _ => by
  obtain ⟨k, rfl⟩ := succ_of (show 0 < k by omega)
  simp only [api_Tag_with_102_145.l1]
  rw [if_neg (by simp), w64s (by omega)]
  exact h k (by simp at hk; omega)
 | z :: p, y, q, k, h, hk, hp => by
  obtain ⟨k, rfl⟩ := succ_of (show 0 < k by omega)
  rw [List.length_cons] at hk hp
  have e0 : (z :: p).reverse ++ y :: q = p.reverse ++ z :: y :: q := by rw [List.reverse_cons, List.append_assoc]; rfl
  have e1 : rd_T98 (p.reverse ++ z :: y :: q) (((z :: p).length : Nat) : Int) = y := by
   have : p.reverse ++ z :: y :: q = (p.reverse ++ [z]) ++ y :: q := by rw [List.append_assoc]; rfl
   rw [this]
   exact rd_mid (by rw [List.length_append, List.length_reverse]; rfl)
  have e2 : rd_T98 (p.reverse ++ z :: y :: q) ((p.length : Nat) : Int) = z := rd_mid (by rw [List.length_reverse])
  have ew : wrap64 (((z :: p).length : Nat) - 1 : Int) = ((p.length : Nat) : Int) := by rw [List.length_cons, w64 (by omega) (by omega)]; omega
  have hlen : (p.reverse ++ z :: y :: q).length = p.length + 2 + q.length := by rw [List.length_append, List.length_reverse, List.length_cons, List.length_cons]; omega
  have es : ((p.reverse ++ z :: y :: q).set ((z :: p).length) z).set p.length y = p.reverse ++ y :: z :: q := by
   have : p.reverse ++ z :: y :: q = (p.reverse ++ [z]) ++ y :: q := by rw [List.append_assoc]; rfl
   rw [this, set_mid (by rw [List.length_append, List.length_reverse]; rfl), List.append_assoc]
   exact set_mid (by rw [List.length_reverse])
  have es2 : ((p.reverse ++ z :: y :: q).set ((((z :: p).length : Nat) : Int)).toNat (⟨z.f0, z.f1⟩ : Tg)).set (((p.length : Nat) : Int)).toNat (⟨y.f0, y.f1⟩ : Tg) = p.reverse ++ y :: z :: q := es
  rw [e0]
  simp only [api_Tag_with_102_145.l1]
  rw [ew, e1, e2, order_eq, if_pos (by rw [List.length_cons]; omega), if_pos (by omega), if_pos (by rw [hlen, List.length_cons]; omega), if_pos (by omega), if_pos (by rw [hlen]; omega), Option.bind_some]
  by_cases c : less (nm y) (nm z) = true
  ·
   rw [if_pos ((Ord.cmp_neg _ _).mpr c), es2]
   refine ins_l1 R i m hi p y (z :: q) k (fun k' hk' => ?_) (by omega) (by omega)
   have := h k' hk'
   rw [insR, if_pos c, List.reverse_cons, List.append_assoc] at this
   exact this
  ·
   rw [if_neg (fun h2 => c ((Ord.cmp_neg _ _).mp h2)), w64s (by omega)]
   have := h k (by omega)
   rw [insR, if_neg c, List.reverse_cons, List.reverse_cons, List.append_assoc, List.append_assoc] at this
   exact this
theorem sort_l0 {n : Nat} (hn : n < 1000) : ∀ (r p : List Tg) (k : Nat), p.length + r.length = n → (n + 3) * (r.length + 1) ≤ k →
 api_Tag_with_102_145.l0 k (p.reverse ++ r) 0 (n : Int) (p.length : Int) = some (isR nm p r)
 | [], p, k, h, hk => by
  obtain ⟨k, rfl⟩ := succ_of (show 0 < k by simp at hk; omega)
  simp only [api_Tag_with_102_145.l0]
  rw [List.length_nil] at h
  rw [if_neg (by omega), List.append_nil]
  rfl
 | y :: r, p, k, h, hk => by
  rw [List.length_cons] at h hk
  have hk2 : (n + 3) * (r.length + 1) + (n + 3) ≤ k := by rw [Nat.mul_succ] at hk; exact hk
  obtain ⟨k, rfl⟩ := succ_of (show 0 < k by omega)
  simp only [api_Tag_with_102_145.l0]
  rw [if_pos (by omega)]
  refine ins_l1 _ p.length ((n + 3) * (r.length + 1)) (by omega) p y r k (fun k' hk' => ?_) (by omega) (by omega)
  have := sort_l0 hn r (insR nm y p) k' (by rw [Ord.insR_len]; omega) hk'
  rw [Ord.insR_len] at this
  exact this
theorem sort_eq {l : List Tg} (hl : l.length ≤ 12) {k : Nat} (hk : 300 ≤ k) : api_Tag_with_102_101.f k l = some (isR nm [] l) := by
 have hs : ∀ k, 280 ≤ k → api_Tag_with_102_145.f k l 0 (l.length : Int) = some (isR nm [] l) := by
  intro k hk
  unfold api_Tag_with_102_145.f
  cases l with
  | nil =>
   obtain ⟨k, rfl⟩ := succ_of (show 0 < k by omega)
   simp only [api_Tag_with_102_145.l0]
   rw [if_neg (by rw [show wrap64 (0 + 1) = ((1 : Nat) : Int) from w64s (i := 0) (by omega)]; simp)]
   rfl
  | cons x r =>
   rw [show wrap64 (0 + 1) = ((1 : Nat) : Int) from w64s (i := 0) (by omega)]
   rw [List.length_cons] at hl
   have hm : (r.length + 1 + 3) * (r.length + 1) ≤ 15 * 12 + 15 := by
    have : (r.length + 1 + 3) * (r.length + 1) ≤ 15 * 12 := Nat.mul_le_mul (by omega) (by omega)
    omega
   have := sort_l0 (n := r.length + 1) (by omega) r [x] k (by simp; omega) (by omega)
   exact this
 unfold api_Tag_with_102_101.f
 have hb : bits_Len.f (IntKind.u64.wrap (l.length : Int)) = some ((Lib.bitLen (IntKind.u64.wrap (l.length : Int)).toNat : Nat) : Int) := by
  unfold bits_Len.f
  have hw : IntKind.u64.wrap (l.length : Int) = (l.length : Int) := by
   show ((l.length : Int)) % 18446744073709551616 = _
   omega
  rw [hw, if_pos ⟨by omega, by omega⟩]
 obtain ⟨k, rfl⟩ : ∃ m, k = m + 1 + 1 := ⟨k - 2, by omega⟩
 rw [hb, Option.bind_some, api_Tag_with_102_122.f, api_Tag_with_102_122.l0, w64 (by omega) (by omega), if_pos (by omega), hs k (by omega), Option.bind_some, Option.bind_some]
def mayG (x : Tg) : Bool := isName (nm x) && isVal (bl x.f1)
def Sh (l : List Tg) : Prop := ∀ x ∈ l, x.f0.size ≤ 1000 ∧ x.f1.size ≤ 1000
theorem mayg_eq {x : Tg} (h : x.f0.size ≤ 1000 ∧ x.f1.size ≤ 1000) {k : Nat} (hk : 1010 ≤ k) : tag_may.f x.f0 x.f1 = some (mayG x) ∧ r03_may.f k x.f0 x.f1 = some (mayG x) := by
 have h0 := bl_len x.f0
 have h1 := bl_len x.f1
 have a := name_eq (l := bl x.f0) (by omega)
 have b := value_eq (l := bl x.f1) (by omega)
 have c := rname_eq (l := bl x.f0) (by omega) k (by omega)
 have d := rvalue_eq (l := bl x.f1) (by omega) k (by omega)
 rw [bl_eta] at a b c d
 unfold tag_may.f r03_may.f mayG nm
 rw [a, b, c, d]
 simp only [Option.bind_some]
 cases isName (bl x.f0)
 ·
  exact ⟨rfl, rfl⟩
 ·
  exact ⟨rfl, rfl⟩
theorem may_l0 {l : List Tg} (hs : Sh l) (hl : l.length ≤ 100000) (d : Nat) : ∀ (i k : Nat), i + d = l.length → d < k →
 ∃ r : Int, api_Tag_with_98_119.l0 k l (l.length : Int) (i : Int) = some r ∧ decide (r ≥ 0) = !((l.drop i).all mayG) := by
 induction d with
 | zero =>
  intro i k hi hk
  obtain ⟨k, rfl⟩ := succ_of hk
  simp only [api_Tag_with_98_119.l0]
  rw [if_neg (by omega), List.drop_of_length_le (by omega)]
  exact ⟨-1, rfl, rfl⟩
 | succ d ih =>
  intro i k hi hk
  obtain ⟨k, rfl⟩ := succ_of hk
  have hlt : i < l.length := by omega
  simp only [api_Tag_with_98_119.l0]
  unfold tag_Canon_1.f
  rw [if_pos (by omega), if_pos (by omega), if_pos (by omega), rdT hlt, (mayg_eq (hs _ (List.getElem_mem hlt)) (k := 1010) (Nat.le_refl _)).1, Option.bind_some, Option.bind_some, w64s (by omega), drop_at hlt, List.all_cons]
  by_cases h : mayG l[i] = true
  ·
   rw [h, if_neg (by decide), Bool.true_and]
   exact ih (i + 1) k (by omega) (by omega)
  ·
   rw [Bool.eq_false_iff.mpr h, if_pos (show (!false) = true from rfl), Bool.false_and]
   exact ⟨(i : Int), rfl, decide_eq_true (by omega)⟩
def canS (l : List Tg) : List Tg × Int := if l.all mayG = true then (if l.length > 4 then ([], 4) else if adj nm (isR nm [] l) = true then ([], 5) else (isR nm [] l, 0)) else ([], 2)
theorem adj_l0 {l : List Tg} (hl : l.length ≤ 1000) (d : Nat) : ∀ (i k : Nat), i + 1 + d = l.length → d < k →
 tag_Canon.l0 k l ((i + 1 : Nat) : Int) = some (if adj nm (l.drop i) = true then ([], 5) else (l, 0)) := by
 induction d with
 | zero =>
  intro i k hi hk
  obtain ⟨k, rfl⟩ := succ_of hk
  have hlt : i < l.length := by omega
  simp only [tag_Canon.l0]
  rw [if_neg (by omega), drop_at hlt, List.drop_of_length_le (by omega)]
  rfl
 | succ d ih =>
  intro i k hi hk
  obtain ⟨k, rfl⟩ := succ_of hk
  have hlt : i < l.length := by omega
  have hl2 : i + 1 < l.length := by omega
  have ew : wrap64 (((i + 1 : Nat) : Int) - 1) = (i : Int) := by rw [w64 (by omega) (by omega)]; omega
  simp only [tag_Canon.l0]
  rw [if_pos (by omega), ew, if_pos (by omega), if_pos (by omega), if_pos (by omega), rdT hlt, rdT hl2, order_eq, Option.bind_some, w64s (by omega), ih (i + 1) k (by omega) (by omega), drop_at hlt, drop_at hl2]
  by_cases c : nm l[i] = nm l[i + 1]
  ·
   rw [if_pos ((Ord.cmp_zero _ _).mpr c), adj, if_pos c, if_pos rfl]
  ·
   rw [if_neg (fun h => c ((Ord.cmp_zero _ _).mp h)), adj, if_neg c]
theorem canon_eq {l : List Tg} (hs : Sh l) (hl : l.length ≤ 1000) {k : Nat} (hk : 1100 ≤ k) : tag_Canon.f k l = some (canS l) := by
 unfold tag_Canon.f api_Tag_with_98_97.f api_Tag_with_98_119.f api_Tag_100.f canS
 obtain ⟨r, e1, e2⟩ := may_l0 hs (by omega) l.length 0 k (by omega) (by omega)
 rw [List.drop_zero] at e2
 rw [show (0 : Int) = ((0 : Nat) : Int) from rfl, e1, Option.bind_some, Option.bind_some, show ((0 : Nat) : Int) = 0 from rfl, e2]
 by_cases h : l.all mayG = true
 ·
  rw [h, if_neg (by decide), if_pos rfl]
  by_cases h4 : l.length > 4
  ·
   rw [if_pos (by omega), if_pos h4]
  ·
   rw [if_neg (by omega), if_neg h4, if_pos (by omega), Option.bind_some, sort_eq (by omega) (by omega), Option.bind_some]
   have hp := (Ord.isR_perm nm l []).length_eq
   rw [List.nil_append] at hp
   cases hq : isR nm [] l with
   | nil =>
    obtain ⟨k, rfl⟩ := succ_of (show 0 < k by omega)
    simp only [tag_Canon.l0]
    rw [if_neg (by simp)]
    rfl
   | cons x q =>
    rw [hq] at hp
    have := adj_l0 (l := x :: q) (by omega) q.length 0 k (by rw [List.length_cons]; omega) (by rw [List.length_cons] at hp; omega)
    rw [List.drop_zero] at this
    exact this
 ·
  rw [Bool.eq_false_iff.mpr h, if_pos (show (!false) = true from rfl), if_neg (by decide)]
def fin (r : Option (List Tg)) : List Tg × Int := match r with | none => ([], 5) | some o => (o, 0)
theorem ref_l2 {x0 : List Tg} {i m : Nat} (hi : i < x0.length) (hx : x0.length ≤ 100) (rest : List Tg) (IH : ∀ (out : List Tg) (k : Nat), out.length = i + 1 → m ≤ k → r03_Canon.l1 k x0 out ((i + 1 : Nat) : Int) = some (fin (refS nm out rest))) :
 ∀ (suf pre : List Tg) (k : Nat), pre.length + suf.length = i → m + suf.length + 1 ≤ k →
 r03_Canon.l2 k x0 (pre ++ suf) (i : Int) (pre.length : Int) = some (fin (((insL nm x0[i] suf).map (pre ++ ·)).bind fun o => refS nm o rest))
 | [], pre, k, h, hk => by
  obtain ⟨k, rfl⟩ := succ_of (show 0 < k by omega)
  rw [List.length_nil] at h
  have ht : (pre ++ []).take ((pre.length : Int)).toNat = pre := by rw [List.append_nil, Int.toNat_natCast, List.take_length]
  have hd : (pre ++ []).drop ((pre.length : Int)).toNat = [] := by rw [List.append_nil, Int.toNat_natCast, List.drop_length]
  have hl : (pre ++ []).length = pre.length := by rw [List.append_nil]
  simp only [r03_Canon.l2]
  rw [ht, hd, hl, if_neg (by omega), Option.bind_some, if_pos (by omega), if_pos (by omega), Option.bind_some, if_pos (by simp), Option.bind_some, Option.bind_some, if_pos (by omega), if_pos (by omega), if_pos (by omega), Option.bind_some, rdT hi, if_pos (by simp; omega), w64s (by omega)]
  have := IH (pre ++ [x0[i]]) k (by rw [List.length_append, List.length_singleton]; omega) (by simp at hk; omega)
  rw [List.append_nil, List.append_nil]
  exact this
 | z :: suf, pre, k, h, hk => by
  obtain ⟨k, rfl⟩ := succ_of (show 0 < k by omega)
  rw [List.length_cons] at h hk
  have hz : rd_T98 (pre ++ z :: suf) (pre.length : Int) = z := rd_mid rfl
  have ht : (pre ++ z :: suf).take ((pre.length : Int)).toNat = pre := by rw [Int.toNat_natCast, List.take_left]
  have hd : (pre ++ z :: suf).drop ((pre.length : Int)).toNat = z :: suf := by rw [Int.toNat_natCast, List.drop_left]
  have hl : (pre ++ z :: suf).length = i := by rw [List.length_append, List.length_cons]; omega
  simp only [r03_Canon.l2]
  rw [ht, hd, hl, hz, rdT hi, if_pos (by omega), if_pos (by omega), if_pos (by omega), if_pos (by omega), bl_toList, bl_toList]
  unfold insL
  by_cases c : less (nm z) (nm x0[i]) = true
  ·
   have c' : Op.bytesLess (bl z.f0) (bl x0[i].f0) = true := c
   rw [if_pos c', if_pos c, w64s (by omega)]
   have := ref_l2 hi hx rest IH suf (pre ++ [z]) k (by rw [List.length_append, List.length_singleton]; omega) (by omega)
   rw [List.append_assoc, List.length_append, List.length_singleton] at this
   rw [Option.map_map]
   have e : ((pre ++ ·) ∘ (z :: ·) : List Tg → List Tg) = fun o => (pre ++ [z]) ++ o := by
    funext o
    show pre ++ z :: o = _
    rw [List.append_assoc]
    rfl
   rw [e]
   exact this
  ·
   have c' : ¬ Op.bytesLess (bl z.f0) (bl x0[i].f0) = true := c
   rw [if_neg c', if_neg c]
   by_cases c2 : nm z = nm x0[i]
   ·
    have c2' : bl z.f0 = bl x0[i].f0 := c2
    rw [if_pos c2', if_pos c2]
    rfl
   ·
    have c2' : ¬ bl z.f0 = bl x0[i].f0 := c2
    rw [if_neg c2', if_neg c2, Option.bind_some, if_pos (by omega), Option.bind_some, if_pos (by simp; omega), Option.bind_some, Option.bind_some, if_pos (by omega), Option.bind_some, if_pos (by simp; omega), w64s (by omega)]
    have := IH ((pre ++ [x0[i]]) ++ z :: suf) k (by rw [List.length_append, List.length_append, List.length_singleton, List.length_cons]; omega) (by omega)
    rw [List.nil_append]
    have e : (pre ++ [x0[i]]) ++ z :: suf = pre ++ x0[i] :: z :: suf := by rw [List.append_assoc]; rfl
    rw [e] at this
    have e2 : (pre ++ [(⟨x0[i].f0, x0[i].f1⟩ : Tg)]) ++ z :: suf = pre ++ x0[i] :: z :: suf := e
    rw [e2]
    exact this
theorem ref_l1 {x0 : List Tg} (hx : x0.length ≤ 100) {c : Nat} (hc : 105 ≤ c) (d : Nat) : ∀ (i : Nat) (out : List Tg) (k : Nat), i + d = x0.length → out.length = i → (d + 1) * c ≤ k →
 r03_Canon.l1 k x0 out (i : Int) = some (fin (refS nm out (x0.drop i))) := by
 induction d with
 | zero =>
  intro i out k hi ho hk
  rw [Nat.zero_add, Nat.one_mul] at hk
  obtain ⟨k, rfl⟩ := succ_of (show 0 < k by omega)
  simp only [r03_Canon.l1]
  rw [if_neg (by omega), List.drop_of_length_le (by omega)]
  rfl
 | succ d ih =>
  intro i out k hi ho hk
  rw [Nat.succ_mul] at hk
  obtain ⟨k, rfl⟩ := succ_of (show 0 < k by omega)
  have hlt : i < x0.length := by omega
  simp only [r03_Canon.l1]
  rw [if_pos (by omega), drop_at hlt]
  have := ref_l2 (m := (d + 1) * c) hlt hx (x0.drop (i + 1)) (fun o k' h1 h2 => ih (i + 1) o k' (by omega) h1 h2) out [] k (by rw [List.length_nil]; omega) (by omega)
  rw [List.nil_append, List.length_nil] at this
  have h0 : ((0 : Nat) : Int) = 0 := rfl
  rw [h0] at this
  rw [this]
  have e : (fun o : List Tg => ([] : List Tg) ++ o) = id := by
   funext o
   rfl
  rw [refS, e, Option.map_id]
  rfl
theorem rmay_l0 {l : List Tg} (hs : Sh l) (hl : l.length ≤ 1000) (d : Nat) : ∀ (i k : Nat), i + d = l.length → d + 12000 < k →
 r03_Canon.l0 k l (i : Int) = some (if (l.drop i).all mayG = true then (if l.length > 4 then ([], 4) else fin (refS nm [] l)) else ([], 2)) := by
 induction d with
 | zero =>
  intro i k hi hk
  obtain ⟨k, rfl⟩ := succ_of (show 0 < k by omega)
  simp only [r03_Canon.l0]
  rw [if_neg (by omega), List.drop_of_length_le (by omega), List.all_nil, if_pos rfl]
  by_cases h4 : l.length > 4
  ·
   rw [if_pos (by omega), if_pos h4]
  ·
   rw [if_neg (by omega), if_neg h4]
   have := ref_l1 (x0 := l) (c := 105) (by omega) (Nat.le_refl _) l.length 0 [] k (by omega) rfl (by omega)
   rw [List.drop_zero] at this
   exact this
 | succ d ih =>
  intro i k hi hk
  obtain ⟨k, rfl⟩ := succ_of (show 0 < k by omega)
  have hlt : i < l.length := by omega
  simp only [r03_Canon.l0]
  rw [if_pos (by omega), if_pos (by omega), rdT hlt, (mayg_eq (hs _ (List.getElem_mem hlt)) (k := k) (by omega)).2, Option.bind_some, w64s (by omega), ih (i + 1) k (by omega) (by omega), drop_at hlt, List.all_cons]
  by_cases h : mayG l[i] = true
  ·
   rw [if_pos h, h, Bool.true_and]
  ·
   rw [if_neg h, Bool.eq_false_iff.mpr h, Bool.false_and, if_neg (by decide)]
theorem rcanon_eq {l : List Tg} (hs : Sh l) (hl : l.length ≤ 1000) {k : Nat} (hk : 14000 ≤ k) : r03_Canon.f k l = some (canS l) := by
 have h := rmay_l0 hs hl l.length 0 k (by omega) (by omega)
 rw [List.drop_zero] at h
 unfold r03_Canon.f
 rw [show (0 : Int) = ((0 : Nat) : Int) from rfl, h]
 unfold canS
 have hb := Ord.both nm l (p := []) List.Pairwise.nil
 rw [List.reverse_nil] at hb
 rw [hb]
 split
 ·
  split
  ·
   rfl
  ·
   split <;> rfl
 ·
  rfl
end Go.Proofs.YtgcbejidponoaaaGreatDoor.Pure
end
section
namespace Go.Proofs.YtgcbejidponoaaaGreatDoor.Pure
open Go.RowKit Go.Proofs.YtgcbejidponoaaaGreatDoor.X Go.Proofs.YtgcbejidponoaaaGreatDoorW.PrintWords Go.Proofs.YtgcbejidponoaaaGreatDoorW.PrintLast Go.Proofs.YtgcbejidponoaaaGreatDoorW.PrintMore Go.Proofs.YtgcbejidponoaaaGreatDoor.Aid Go.Proofs.YtgcbejidponoaaaGreatDoor.Bytes
open Go.Lib (index occAt NoOcc)
theorem occ_iff {s sub : T} {i : Nat} : occAt s sub i = true ↔ ∃ v, s.drop i = sub ++ v := by
 unfold occAt
 rw [List.isPrefixOf_iff_prefix]
 exact ⟨fun ⟨v, h⟩ => ⟨v, h.symm⟩, fun ⟨v, h⟩ => ⟨v, h.symm⟩⟩
theorem no_occ {a r t : T} {c : UInt8} (h : c ∉ a) : NoOcc (a ++ r) (c :: t) a.length := by
 intro j hj
 rw [Bool.eq_false_iff]
 intro e
 obtain ⟨v, hv⟩ := occ_iff.mp e
 rw [List.drop_append_of_le_length (by omega), drop_at hj, List.cons_append, List.cons_append] at hv
 injection hv with h1 _
 exact h (by rw [← h1]; exact List.getElem_mem hj)
theorem index_at {a t v : T} {c : UInt8} (h : c ∉ a) : index (a ++ ((c :: t) ++ v)) (c :: t) = (a.length : Int) :=
 Go.Lib.index_hit (no_occ h) (by rw [List.length_append]; omega) (occ_iff.mpr ⟨v, by rw [List.drop_left]⟩)
theorem index_no {a t : T} {c : UInt8} (h : c ∉ a) : index a (c :: t) = -1 := by
 have h2 := no_occ (r := []) (t := t) h
 rw [List.append_nil] at h2
 exact Go.Lib.index_past (by simp) h2 (by simp)
theorem first_at (c : UInt8) : ∀ p : T, c ∉ p ∨ ∃ a v, p = a ++ c :: v ∧ c ∉ a
 | [] => .inl (by simp)
 | x :: p => by
  by_cases h : x = c
  ·
   exact .inr ⟨[], p, by rw [h]; rfl, by simp⟩
  ·
   rcases first_at c p with h2 | ⟨a, v, e, h2⟩
   ·
    exact .inl (by rw [List.mem_cons, not_or]; exact ⟨fun e => h e.symm, h2⟩)
   ·
    exact .inr ⟨x :: a, v, by rw [e]; rfl, by rw [List.mem_cons, not_or]; exact ⟨fun e => h e.symm, h2⟩⟩
theorem cut_at {a v : T} {c : UInt8} (h : c ∉ a) : Lib.cut (a ++ c :: v) [c] = (a, v, true) := by
 have e := index_at (t := []) (v := v) h
 rw [show ([c] : T) ++ v = c :: v from rfl] at e
 unfold Lib.cut
 rw [e, if_pos (by omega), Int.toNat_natCast, List.take_left, List.length_singleton, ← List.drop_drop, List.drop_left]
 rfl
theorem cut_no {a : T} {c : UInt8} (h : c ∉ a) : Lib.cut a [c] = (a, [], false) := by
 unfold Lib.cut
 rw [index_no h, if_neg (by decide)]
def readG (p : T) : Tg := ⟨mk (Lib.cut p [61]).1, mk (Lib.cut p [61]).2.1⟩
def okG (p : T) : Bool := (Lib.cut p [61]).2.2
theorem cut_eq {p : T} (h : p.length ≤ 100000) : strings_Cut.f (mk p) (⟨#[61]⟩ : ByteArray) = some ((readG p).f0, (readG p).f1, okG p) := by
 unfold strings_Cut.f
 rw [mk_size, if_pos (by omega), mk_data]
 rfl
theorem readG_len (p : T) : (readG p).f0.size ≤ p.length ∧ (readG p).f1.size ≤ p.length := by
 unfold readG
 rw [mk_size, mk_size]
 rcases first_at 61 p with h | ⟨a, v, e, h⟩
 ·
  rw [cut_no h]; simp
 ·
  rw [e, cut_at h]; simp; omega
def parseG (s : T) : List Tg × Int := if s = [] then ([], 0) else if (spl 44 s).all okG = true then canS ((spl 44 s).map readG) else ([], 2)
theorem sh_read {L : List T} (h : ∀ p ∈ L, p.length ≤ 1000) : Sh (L.map readG) := by
 intro x hx
 obtain ⟨p, hp, rfl⟩ := List.mem_map.mp hx
 have := readG_len p
 have := h p hp
 omega
theorem parse_l0 {L : List T} (hL : ∀ p ∈ L, p.length ≤ 1000) (hn : L.length ≤ 1000) (d : Nat) : ∀ (i k : Nat), i + d = L.length → d + 1200 < k →
 tag_Parse.l0 k ((L.take i).map readG) (L.map mk) (L.length : Int) (i : Int) = some (if (L.drop i).all okG = true then canS (L.map readG) else ([], 2)) := by
 induction d with
 | zero =>
  intro i k hi hk
  obtain ⟨k, rfl⟩ := succ_of (show 0 < k by omega)
  simp only [tag_Parse.l0]
  rw [if_neg (by omega), List.drop_of_length_le (by omega), List.take_of_length_le (by omega), canon_eq (sh_read hL) (by rw [List.length_map]; omega) (by omega), List.all_nil, if_pos rfl]
  rfl
 | succ d ih =>
  intro i k hi hk
  obtain ⟨k, rfl⟩ := succ_of (show 0 < k by omega)
  have hlt : i < L.length := by omega
  have hp := hL _ (List.getElem_mem hlt)
  have e2 : (L.take i).map readG ++ [(⟨(readG L[i]).f0, (readG L[i]).f1⟩ : Tg)] = (L.take (i + 1)).map readG := by rw [take_at hlt, List.map_append]; rfl
  simp only [tag_Parse.l0]
  rw [List.length_map, if_pos (by omega), if_pos (by omega), if_pos (by omega), rds hlt, cut_eq (by omega), Option.bind_some, e2, w64s (by omega), ih (i + 1) k (by omega) (by omega), drop_at hlt, List.all_cons]
  by_cases h : okG L[i] = true
  ·
   rw [if_pos h, if_pos (by rw [List.length_map, List.length_take]; omega), h, Bool.true_and]
  ·
   rw [if_neg h, Bool.eq_false_iff.mpr h, Bool.false_and, if_neg (by decide)]
theorem parse_eq {s : T} (hs : s.length ≤ 900) {k : Nat} (hk : 30000 ≤ k) : tag_Parse.f k (mk s) = some (parseG s) := by
 unfold tag_Parse.f parseG
 rw [mk_toList]
 by_cases h : s = []
 ·
  rw [if_pos h, if_pos h]
 ·
  have hl := spl_len 44 s
  have := parse_l0 (L := spl 44 s) (fun p hp => by have := spl_short 44 s p hp; omega) (by omega) (spl 44 s).length 0 k (by omega) (by omega)
  rw [if_neg h, if_neg h, show (44 : Int) = ((44 : UInt8).toNat : Int) from rfl, split_eq 44 (by omega) k (by omega), Option.bind_some, List.length_map]
  exact this
theorem rparse_l0 {L : List T} (hL : ∀ p ∈ L, p.length ≤ 1000) (hn : L.length ≤ 1000) (d : Nat) : ∀ (i k : Nat), i + d = L.length → d + 25000 < k →
 r03_Parse.l0 k ((L.take i).map readG) (L.map mk) (i : Int) = some (if (L.drop i).all okG = true then canS (L.map readG) else ([], 2)) := by
 induction d with
 | zero =>
  intro i k hi hk
  obtain ⟨k, rfl⟩ := succ_of (show 0 < k by omega)
  simp only [r03_Parse.l0]
  rw [List.length_map, if_neg (by omega), List.drop_of_length_le (by omega), List.take_of_length_le (by omega), rcanon_eq (sh_read hL) (by rw [List.length_map]; omega) (by omega), List.all_nil, if_pos rfl]
  rfl
 | succ d ih =>
  intro i k hi hk
  obtain ⟨k, rfl⟩ := succ_of (show 0 < k by omega)
  have hlt : i < L.length := by omega
  have hp := hL _ (List.getElem_mem hlt)
  have hsp := rsplit_eq 61 (l := L[i]) (by omega) k (by omega)
  have hih := ih (i + 1) k (by omega) (by omega)
  simp only [r03_Parse.l0]
  rw [List.length_map, if_pos (by omega), if_pos (by omega), rds hlt, show (61 : Int) = ((61 : UInt8).toNat : Int) from rfl, hsp, Option.bind_some, List.length_map, drop_at hlt, List.all_cons]
  rcases first_at 61 L[i] with h | ⟨a, v, e, h⟩
  ·
   have ho : okG L[i] = false := by unfold okG; rw [cut_no h]
   rw [spl_no 61 _ h, if_pos (by simp), ho, Bool.false_and, if_neg (by decide)]
  ·
   have ho : okG L[i] = true := by unfold okG; rw [e, cut_at h]
   have hr : readG L[i] = ⟨mk a, mk v⟩ := by unfold readG; rw [e, cut_at h]
   have hs : spl 61 L[i] = a :: spl 61 v := by rw [e, spl_app 61 a v h]
   have hne := spl_ne 61 v
   have hl2 := spl_len 61 v
   have hlv : v.length ≤ 1000 := by rw [e, List.length_append, List.length_cons] at hp; omega
   have hpos : 1 ≤ (spl 61 v).length := by
    cases hq : spl 61 v with
    | nil => exact absurd hq hne
    | cons y q => simp
   have htot : tot (spl 61 v) ≤ 2000000 := by
    have h1 := tot_le 1000 (spl 61 v) (fun x hx => by have := spl_short 61 v x hx; omega)
    omega
   have hj := rjoin_eq (L := spl 61 v) (s := [61]) (k := k) (by omega) (by simp) (by omega) (by omega)
   rw [join_spl] at hj
   have hj2 : r02_Join.f k (⟨#[61]⟩ : ByteArray) ((spl 61 v).map mk) = some (mk v) := hj
   have e2 : (L.take i).map readG ++ [(⟨mk a, mk v⟩ : Tg)] = (L.take (i + 1)).map readG := by rw [take_at hlt, List.map_append, ← hr]; rfl
   have h0 : rdOf ByteArray.empty ((a :: spl 61 v).map mk) 0 = mk a := rfl
   have hd : ((a :: spl 61 v).map mk).drop 1 = (spl 61 v).map mk := rfl
   rw [hs, h0, hd, hj2, if_neg (by rw [List.length_cons]; omega), if_pos (by rw [List.length_cons]; omega), if_pos (by rw [List.length_cons]; omega), Option.bind_some, if_pos (by rw [List.length_map, List.length_take]; omega), e2, w64s (by omega), hih, ho, Bool.true_and]
theorem rparse_eq {s : T} (hs : s.length ≤ 900) {k : Nat} (hk : 30000 ≤ k) : r03_Parse.f k (mk s) = some (parseG s) := by
 unfold r03_Parse.f parseG
 rw [mk_toList]
 by_cases h : s = []
 ·
  rw [if_pos h, if_pos h]
 ·
  have hl := spl_len 44 s
  have := rparse_l0 (L := spl 44 s) (fun p hp => by have := spl_short 44 s p hp; omega) (by omega) (spl 44 s).length 0 k (by omega) (by omega)
  rw [if_neg h, if_neg h, show (44 : Int) = ((44 : UInt8).toNat : Int) from rfl, rsplit_eq 44 (by omega) k (by omega), Option.bind_some]
  exact this
def tagT (x : Tg) : T := bl x.f0 ++ [61] ++ bl x.f1
def tagsT (l : List Tg) : T := Lib.join (l.map tagT) [44]
theorem join2 (n v s : T) : Lib.join [n, v] s = n ++ s ++ v := by simp [Lib.join_cons, Lib.joinTail]
theorem tag_one {x : Tg} (h : x.f0.size ≤ 1000 ∧ x.f1.size ≤ 1000) : word_Join.f (⟨#[61]⟩ : ByteArray) [x.f0, x.f1] = some (mk (tagT x)) := by
 have h0 := bl_len x.f0
 have h1 := bl_len x.f1
 have := join_eq (L := [bl x.f0, bl x.f1]) (s := [61]) (by simp) (by rw [join2]; simp only [List.length_append, List.length_singleton]; omega)
 rw [join2, List.map_cons, List.map_cons, bl_eta, bl_eta] at this
 exact this
theorem tagT_len {x : Tg} (h : x.f0.size ≤ 1000 ∧ x.f1.size ≤ 1000) : (tagT x).length ≤ 2001 := by
 have h0 := bl_len x.f0
 have h1 := bl_len x.f1
 unfold tagT
 simp only [List.length_append, List.length_singleton]
 omega
theorem tags_tot {l : List Tg} (hs : Sh l) (hl : l.length ≤ 1000) : tot (l.map tagT) ≤ 3000000 := by
 have h1 := tot_le 2001 (l.map tagT) (fun x hx => by
  obtain ⟨y, hy, rfl⟩ := List.mem_map.mp hx
  exact tagT_len (hs y hy))
 rw [List.length_map] at h1
 omega
theorem text_l0 {l : List Tg} (hs : Sh l) (hl : l.length ≤ 1000) (d : Nat) : ∀ (i k : Nat), i + d = l.length → d < k →
 tag_Text.l0 k ((l.take i).map fun x => mk (tagT x)) l (l.length : Int) (i : Int) = some (mk (tagsT l)) := by
 induction d with
 | zero =>
  intro i k hi hk
  obtain ⟨k, rfl⟩ := succ_of hk
  have hj := join_len [44] (l.map tagT)
  have ht := tags_tot hs hl
  rw [List.length_map, List.length_singleton] at hj
  have e := join_eq (L := l.map tagT) (s := [44]) (by rw [List.length_map]; omega) (by omega)
  rw [List.map_map] at e
  simp only [tag_Text.l0]
  rw [if_neg (by omega), List.take_of_length_le (by omega)]
  have e2 : word_Join.f (⟨#[44]⟩ : ByteArray) (l.map fun x => mk (tagT x)) = some (mk (tagsT l)) := e
  rw [e2, Option.bind_some]
 | succ d ih =>
  intro i k hi hk
  obtain ⟨k, rfl⟩ := succ_of hk
  have hlt : i < l.length := by omega
  have e2 : ((l.take i).map fun x => mk (tagT x)) ++ [mk (tagT l[i])] = (l.take (i + 1)).map fun x => mk (tagT x) := by rw [take_at hlt, List.map_append]; rfl
  simp only [tag_Text.l0]
  rw [if_pos (by omega), if_pos (by omega), if_pos (by omega), rdT hlt, tag_one (hs _ (List.getElem_mem hlt)), Option.bind_some, if_pos (by rw [List.length_map, List.length_take]; omega), w64s (by omega), e2]
  exact ih (i + 1) k (by omega) (by omega)
theorem ttext_eq {l : List Tg} (hs : Sh l) (hl : l.length ≤ 1000) {k : Nat} (hk : 1010 ≤ k) : tag_Text.f k l = some (mk (tagsT l)) :=
 text_l0 hs hl l.length 0 k (by omega) (by omega)
theorem rtext_l0 {l : List Tg} (hs : Sh l) (hl : l.length ≤ 1000) (d : Nat) : ∀ (i k : Nat), i + d = l.length → d + 1100 < k →
 r03_Text.l0 k l ((l.take i).map fun x => mk (tagT x)) (i : Int) = some (mk (tagsT l)) := by
 induction d with
 | zero =>
  intro i k hi hk
  obtain ⟨k, rfl⟩ := succ_of (show 0 < k by omega)
  have ht := tags_tot hs hl
  have e := rjoin_eq (L := l.map tagT) (s := [44]) (k := k) (by rw [List.length_map]; omega) (by simp) (by omega) (by rw [List.length_map]; omega)
  rw [List.map_map] at e
  simp only [r03_Text.l0]
  rw [if_neg (by omega), List.take_of_length_le (by omega)]
  have e2 : r02_Join.f k (⟨#[44]⟩ : ByteArray) (l.map fun x => mk (tagT x)) = some (mk (tagsT l)) := e
  rw [e2, Option.bind_some]
 | succ d ih =>
  intro i k hi hk
  obtain ⟨k, rfl⟩ := succ_of (show 0 < k by omega)
  have hlt : i < l.length := by omega
  have h1 := hs _ (List.getElem_mem hlt)
  have b0 := bl_len l[i].f0
  have b1 := bl_len l[i].f1
  have e2 : ((l.take i).map fun x => mk (tagT x)) ++ [mk (tagT l[i])] = (l.take (i + 1)).map fun x => mk (tagT x) := by rw [take_at hlt, List.map_append]; rfl
  have et : l[i].f0 ++ (⟨#[61]⟩ : ByteArray) ++ l[i].f1 = mk (tagT l[i]) := by
   have : mk (bl l[i].f0) ++ mk [61] ++ mk (bl l[i].f1) = mk (tagT l[i]) := by rw [mk_append, mk_append]; rfl
   rw [bl_eta, bl_eta] at this
   exact this
  have ez : (l[i].f0 ++ (⟨#[61]⟩ : ByteArray)).size = l[i].f0.size + 1 := by
   have : mk (bl l[i].f0) ++ mk [61] = mk (bl l[i].f0 ++ [61]) := mk_append _ _
   rw [bl_eta] at this
   have h2 : l[i].f0 ++ (⟨#[61]⟩ : ByteArray) = mk (bl l[i].f0 ++ [61]) := this
   rw [h2, mk_size, List.length_append, b0]
   rfl
  simp only [r03_Text.l0]
  rw [if_pos (by omega), if_pos (by omega), rdT hlt, if_pos (by omega), ez, if_pos (by omega), if_pos (by rw [List.length_map, List.length_take]; omega), et, e2, w64s (by omega)]
  exact ih (i + 1) k (by omega) (by omega)
theorem rttext_eq {l : List Tg} (hs : Sh l) (hl : l.length ≤ 1000) {k : Nat} (hk : 2200 ≤ k) : r03_Text.f k l = some (mk (tagsT l)) :=
 rtext_l0 hs hl l.length 0 k (by omega) (by omega)
theorem canS_mem {l : List Tg} : ∀ x ∈ (canS l).1, x ∈ l := by
 unfold canS
 intro x hx
 split at hx
 ·
  split at hx
  ·
   cases hx
  ·
   split at hx
   ·
    cases hx
   ·
    have := (Ord.isR_perm nm l []).subset hx
    rwa [List.nil_append] at this
 ·
  cases hx
theorem canS_len (l : List Tg) : (canS l).1.length ≤ 4 := by
 unfold canS
 split
 ·
  split
  ·
   simp
  ·
   split
   ·
    simp
   ·
    have := (Ord.isR_perm nm l []).length_eq
    rw [List.nil_append] at this
    show (Ord.isR nm [] l).length ≤ 4
    omega
 ·
  simp
theorem parseG_sh {s : T} (hs : s.length ≤ 900) : Sh (parseG s).1 ∧ (parseG s).1.length ≤ 4 := by
 unfold parseG
 split
 ·
  exact ⟨fun x hx => absurd hx (by simp), by simp⟩
 ·
  split
  ·
   refine ⟨fun x hx => sh_read (L := spl 44 s) (fun p hp => by have := spl_short 44 s p hp; omega) x (canS_mem x hx), canS_len _⟩
  ·
   exact ⟨fun x hx => absurd hx (by simp), by simp⟩
def grp (s : T) : Int := if (parseG s).2 = 0 then (if tagsT (parseG s).1 = s then 0 else 2) else (parseG s).2
theorem group_eq {s : T} (hs : s.length ≤ 900) {k : Nat} (hk : 30000 ≤ k) : row_group.f k (mk s) = some (grp s) ∧ r08_group.f k (mk s) = some (grp s) := by
 obtain ⟨h1, h2⟩ := parseG_sh hs
 unfold row_group.f r08_group.f grp
 rw [parse_eq hs hk, rparse_eq hs hk, Option.bind_some, Option.bind_some, ttext_eq h1 (by omega) (by omega), rttext_eq h1 (by omega) (by omega), Option.bind_some, Option.bind_some, mk_toList, mk_toList]
 by_cases h : (parseG s).2 = 0
 ·
  rw [if_pos h, if_pos h, if_pos h, h]
  by_cases h2 : tagsT (parseG s).1 = s
  ·
   rw [if_pos h2, if_pos h2]
   exact ⟨rfl, rfl⟩
  ·
   rw [if_neg h2, if_neg h2]
   exact ⟨rfl, rfl⟩
 ·
  rw [if_neg h, if_neg h, if_neg h]
  exact ⟨rfl, rfl⟩
end Go.Proofs.YtgcbejidponoaaaGreatDoor.Pure
end
section
namespace Go.Proofs.YtgcbejidponoaaaGreatDoor.Pure
open Go.RowKit Go.Proofs.YtgcbejidponoaaaGreatDoor.X Go.Proofs.YtgcbejidponoaaaGreatDoorW.PrintWords Go.Proofs.YtgcbejidponoaaaGreatDoorW.PrintLast Go.Proofs.YtgcbejidponoaaaGreatDoorW.PrintMore Go.Proofs.YtgcbejidponoaaaGreatDoor.Aid Go.Proofs.YtgcbejidponoaaaGreatDoor.Bytes
open Go.Proofs.YtgcbejidponoaaaGreatDoor.Ord (less)
abbrev Key := Int × T
def key (x : Rw) : Key := (x.f0, bl x.f1)
def lt (a b : Key) : Bool := decide (a.1 < b.1) || (decide (a.1 = b.1) && less a.2 b.2)
theorem lt_iff (a b : Key) : lt a b = true ↔ a.1 < b.1 ∨ (a.1 = b.1 ∧ less a.2 b.2 = true) := by
 unfold lt
 rw [Bool.or_eq_true, Bool.and_eq_true, decide_eq_true_eq, decide_eq_true_eq]
theorem lt_irrefl (a : Key) : lt a a = false := by
 rw [Bool.eq_false_iff]
 intro h
 rcases (lt_iff a a).mp h with h | ⟨_, h⟩
 ·
  omega
 ·
  rw [Ord.irrefl] at h
  cases h
theorem lt_trans {a b c : Key} (h1 : lt a b = true) (h2 : lt b c = true) : lt a c = true := by
 rw [lt_iff] at h1 h2 ⊢
 rcases h1 with h1 | ⟨e1, h1⟩
 ·
  rcases h2 with h2 | ⟨e2, _⟩
  ·
   exact .inl (by omega)
  ·
   exact .inl (by omega)
 ·
  rcases h2 with h2 | ⟨e2, h2⟩
  ·
   exact .inl (by omega)
  ·
   exact .inr ⟨by omega, Ord.trans h1 h2⟩
theorem lt_asymm {a b : Key} (h : lt a b = true) : lt b a = false := by
 rw [Bool.eq_false_iff]
 intro h2
 have := lt_trans h h2
 rw [lt_irrefl] at this
 cases this
theorem lt_total (a b : Key) : lt a b = true ∨ a = b ∨ lt b a = true := by
 rw [lt_iff, lt_iff]
 rcases Int.lt_trichotomy a.1 b.1 with h | h | h
 ·
  exact .inl (.inl h)
 ·
  rcases Ord.total a.2 b.2 with h2 | h2 | h2
  ·
   exact .inl (.inr ⟨h, h2⟩)
  ·
   exact .inr (.inl (Prod.ext h h2))
  ·
   exact .inr (.inr (.inr ⟨h.symm, h2⟩))
 ·
  exact .inr (.inr (.inl h))
theorem lt_ne {a b : Key} (h : lt a b = true) : a ≠ b := by
 intro e
 subst e
 rw [lt_irrefl] at h
 cases h
theorem cmpI (a b : Int) : cmp_Compare_int64.f a b = some (if a < b then -1 else if b < a then 1 else 0) := by
 unfold cmp_Compare_int64.f cmp_isNaN_int64.f
 have h1 : (a != a) = false := by simp
 have h2 : (b != b) = false := by simp
 rw [Option.bind_some, Option.bind_some, h1, h2, if_neg (by decide), if_neg (by decide)]
 by_cases h : a < b
 ·
  rw [if_pos h, if_pos h]
 ·
  rw [if_neg h, if_neg h]
  by_cases h2 : b < a
  ·
   rw [if_pos h2, if_pos h2]
  ·
   rw [if_neg h2, if_neg h2]
theorem or2 (a b : Int) {k : Nat} (hk : 3 ≤ k) : cmp_Or_int.f k [a, b] = some (if a = 0 then b else a) := by
 obtain ⟨k, rfl⟩ : ∃ m, k = m + 1 + 1 + 1 := ⟨k - 3, by omega⟩
 unfold cmp_Or_int.f
 have hl : (([a, b] : List Int).length : Int) = 2 := rfl
 have r0 : rd [a, b] 0 = a := rfl
 have r1 : rd [a, b] 1 = b := rfl
 have w1 : wrap64 (0 + 1) = 1 := w64s (i := 0) (by omega)
 have w2 : wrap64 (1 + 1) = 2 := w64s (i := 1) (by omega)
 rw [hl, cmp_Or_int.l0, hl, r0, w1, if_pos (by decide), if_pos (by decide), if_pos (by decide)]
 by_cases h : a = 0
 ·
  rw [if_pos h, if_pos h, cmp_Or_int.l0, hl, r1, w2, if_pos (by decide), if_pos (by decide), if_pos (by decide)]
  by_cases h2 : b = 0
  ·
   rw [if_pos h2, cmp_Or_int.l0, if_neg (by decide), h2]
  ·
   rw [if_neg h2]
 ·
  rw [if_neg h, if_neg h]
theorem before_eq (a b : Rw) {k : Nat} (hk : 3 ≤ k) : row_Before.f k a.f0 a.f1 a.f2.f0 a.f2.f1 b.f0 b.f1 b.f2.f0 b.f2.f1 = some (lt (key a) (key b)) := by
 unfold row_Before.f row_of.f row_order.f strings_Compare.f
 simp only [Option.bind_some]
 rw [cmpI, Option.bind_some, or2 _ _ hk, Option.bind_some, Option.bind_some]
 have e : Lib.compareBytes a.f1.data.toList b.f1.data.toList < 0 ↔ less (bl a.f1) (bl b.f1) = true := Ord.cmp_neg _ _
 congr 1
 rw [Bool.eq_iff_iff, decide_eq_true_eq, lt_iff]
 show _ ↔ a.f0 < b.f0 ∨ (a.f0 = b.f0 ∧ less (bl a.f1) (bl b.f1) = true)
 rw [← e]
 by_cases h : a.f0 < b.f0
 ·
  rw [if_pos h, if_neg (by decide)]
  exact ⟨fun _ => .inl h, fun _ => by decide⟩
 ·
  rw [if_neg h]
  by_cases h2 : b.f0 < a.f0
  ·
   rw [if_pos h2, if_neg (by decide)]
   exact ⟨fun h3 => absurd h3 (by decide), fun h3 => by rcases h3 with h3 | ⟨h3, _⟩ <;> omega⟩
  ·
   rw [if_neg h2, if_pos rfl]
   exact ⟨fun h3 => .inr ⟨by omega, h3⟩, fun h3 => by rcases h3 with h3 | ⟨_, h3⟩; omega; exact h3⟩
theorem rbefore_eq (a b : Rw) (x : Int) (p : Bool) (y : Int) (q : Bool) : r08_Before.f a.f0 a.f1 x p b.f0 b.f1 y q = some (lt (key a) (key b)) := by
 unfold r08_Before.f lt key
 rw [bl_toList, bl_toList]
 dsimp only
 by_cases h : a.f0 < b.f0
 ·
  rw [if_pos h, decide_eq_true h, Bool.true_or]
 ·
  rw [if_neg h, decide_eq_false h, Bool.false_or]
  by_cases h2 : a.f0 = b.f0
  ·
   rw [if_pos h2, decide_eq_true h2, Bool.true_and]
  ·
   rw [if_neg h2, decide_eq_false h2, Bool.false_and]
def riseB : List Rw → Bool
 | x :: y :: r => lt (key x) (key y) && riseB (y :: r)
 | _ => true
def Rise (l : List Rw) : Prop := l.Pairwise fun a b => lt (key a) (key b) = true
theorem riseB_iff : ∀ l : List Rw, riseB l = true ↔ Rise l
 | [] => ⟨fun _ => List.Pairwise.nil, fun _ => rfl⟩
 | [x] => ⟨fun _ => List.pairwise_singleton _ _, fun _ => rfl⟩
 | x :: y :: r => by
  rw [riseB, Bool.and_eq_true, riseB_iff (y :: r)]
  constructor
  ·
   intro ⟨h1, h2⟩
   refine List.pairwise_cons.mpr ⟨fun b hb => ?_, h2⟩
   rcases List.mem_cons.mp hb with rfl | hb
   ·
    exact h1
   ·
    exact lt_trans h1 ((List.pairwise_cons.mp h2).1 b hb)
  ·
   intro h
   have := List.pairwise_cons.mp h
   exact ⟨this.1 y List.mem_cons_self, this.2⟩
theorem rise_l0 {l : List Rw} (hl : l.length ≤ 100000) (d : Nat) : ∀ (i k : Nat), i + 1 + d = l.length → d + 5 < k →
 row_rise.l0 k l ((i + 1 : Nat) : Int) = some (riseB (l.drop i)) ∧ r08_rise.l0 k l ((i + 1 : Nat) : Int) = some (riseB (l.drop i)) := by
 induction d with
 | zero =>
  intro i k hi hk
  obtain ⟨k, rfl⟩ := succ_of (show 0 < k by omega)
  have hlt : i < l.length := by omega
  simp only [row_rise.l0, r08_rise.l0]
  rw [if_neg (by omega), if_neg (by omega), drop_at hlt, List.drop_of_length_le (by omega)]
  exact ⟨rfl, rfl⟩
 | succ d ih =>
  intro i k hi hk
  obtain ⟨k, rfl⟩ := succ_of (show 0 < k by omega)
  have hlt : i < l.length := by omega
  have hl2 : i + 1 < l.length := by omega
  have ew : wrap64 (((i + 1 : Nat) : Int) - 1) = (i : Int) := by rw [w64 (by omega) (by omega)]; omega
  have c1 : ((i + 1 : Nat) : Int) < (l.length : Int) := by omega
  have c2 : 0 ≤ (i : Int) := by omega
  have c3 : (i : Int) < (l.length : Int) := by omega
  have c4 : 0 ≤ ((i + 1 : Nat) : Int) := by omega
  obtain ⟨i1, i2⟩ := ih (i + 1) k (by omega) (by omega)
  have e : riseB (l.drop i) = (lt (key l[i]) (key l[i + 1]) && riseB (l.drop (i + 1))) := by rw [drop_at hlt, drop_at hl2, riseB]
  rw [e]
  refine ⟨?_, ?_⟩
  ·
   simp only [row_rise.l0]
   rw [ew, if_pos c1, if_pos c2, if_pos c3, if_pos c4, rdR hlt, rdR hl2, before_eq _ _ (by omega), Option.bind_some, w64s (by omega), i1]
   cases lt (key l[i]) (key l[i + 1]) <;> rfl
  ·
   simp only [r08_rise.l0]
   rw [ew, if_pos c1, if_pos c2, if_pos c3, if_pos c4, rdR hlt, rdR hl2, rbefore_eq, Option.bind_some, w64s (by omega), i2]
   cases lt (key l[i]) (key l[i + 1]) <;> rfl
theorem rise_eq {l : List Rw} (hl : l.length ≤ 100000) {k : Nat} (hk : l.length + 6 < k) : row_rise.f k l = some (riseB l) ∧ r08_rise.f k l = some (riseB l) := by
 unfold row_rise.f r08_rise.f
 cases l with
 | nil =>
  obtain ⟨k, rfl⟩ := succ_of (show 0 < k by omega)
  simp only [row_rise.l0, r08_rise.l0]
  rw [if_neg (by simp), if_neg (by simp)]
  exact ⟨rfl, rfl⟩
 | cons x r =>
  have := rise_l0 hl r.length 0 k (by rw [List.length_cons]; omega) (by rw [List.length_cons] at hk; omega)
  exact this
def okR (x : Rw) : Bool := decide (grp (bl x.f1) = 0)
def rightS (l : List Rw) : Bool := riseB l && l.all okR
def ShR (l : List Rw) : Prop := ∀ x ∈ l, x.f1.size ≤ 900
theorem grow_eq {x : Rw} (h : x.f1.size ≤ 900) {k : Nat} (hk : 30000 ≤ k) : row_group.f k x.f1 = some (grp (bl x.f1)) ∧ r08_group.f k x.f1 = some (grp (bl x.f1)) := by
 have := group_eq (s := bl x.f1) (by rw [bl_len]; omega) hk
 rw [bl_eta] at this
 exact this
theorem ok_l0 {l : List Rw} (hs : ShR l) (hl : l.length ≤ 1000) (d : Nat) : ∀ (i k : Nat), i + d = l.length → d + 30000 < k →
 ∃ r : Int, api_Row_with_47_64.l0 k l (l.length : Int) (i : Int) = some r ∧ decide (r ≥ 0) = !((l.drop i).all okR) := by
 induction d with
 | zero =>
  intro i k hi hk
  obtain ⟨k, rfl⟩ := succ_of (show 0 < k by omega)
  simp only [api_Row_with_47_64.l0]
  rw [if_neg (by omega), List.drop_of_length_le (by omega)]
  exact ⟨-1, rfl, rfl⟩
 | succ d ih =>
  intro i k hi hk
  obtain ⟨k, rfl⟩ := succ_of (show 0 < k by omega)
  have hlt : i < l.length := by omega
  simp only [api_Row_with_47_64.l0]
  unfold row_Right_1.f
  rw [if_pos (by omega), if_pos (by omega), if_pos (by omega), rdR hlt, (grow_eq (hs _ (List.getElem_mem hlt)) (by omega)).1, Option.bind_some, Option.bind_some, w64s (by omega), drop_at hlt, List.all_cons]
  unfold okR
  by_cases h : grp (bl l[i].f1) = 0
  ·
   rw [h, if_neg (by decide), decide_eq_true rfl, Bool.true_and]
   exact ih (i + 1) k (by omega) (by omega)
  ·
   rw [if_pos (bne_iff_ne.mpr h), decide_eq_false h, Bool.false_and]
   exact ⟨(i : Int), rfl, decide_eq_true (by omega)⟩
theorem rok_l0 {l : List Rw} (hs : ShR l) (hl : l.length ≤ 1000) (d : Nat) : ∀ (i k : Nat), i + d = l.length → d + 32000 < k →
 r08_Right.l0 k l (i : Int) = some ((l.drop i).all okR && riseB l) := by
 induction d with
 | zero =>
  intro i k hi hk
  obtain ⟨k, rfl⟩ := succ_of (show 0 < k by omega)
  simp only [r08_Right.l0]
  rw [if_neg (by omega), List.drop_of_length_le (by omega), (rise_eq (l := l) (by omega) (by omega)).2, Option.bind_some]
  rfl
 | succ d ih =>
  intro i k hi hk
  obtain ⟨k, rfl⟩ := succ_of (show 0 < k by omega)
  have hlt : i < l.length := by omega
  simp only [r08_Right.l0]
  rw [if_pos (by omega), if_pos (by omega), rdR hlt, (grow_eq (hs _ (List.getElem_mem hlt)) (by omega)).2, Option.bind_some, w64s (by omega), ih (i + 1) k (by omega) (by omega), drop_at hlt, List.all_cons]
  unfold okR
  by_cases h : grp (bl l[i].f1) = 0
  ·
   rw [if_pos h, decide_eq_true h, Bool.true_and]
  ·
   rw [if_neg h, decide_eq_false h, Bool.false_and, Bool.false_and]
theorem right_eq {l : List Rw} (hs : ShR l) (hl : l.length ≤ 1000) {k : Nat} (hk : 35000 ≤ k) : row_Right.f k l = some (rightS l) ∧ r08_Right.f k l = some (rightS l) := by
 refine ⟨?_, ?_⟩
 ·
  obtain ⟨r, e1, e2⟩ := ok_l0 hs hl l.length 0 k (by omega) (by omega)
  rw [List.drop_zero] at e2
  unfold row_Right.f api_Row_with_47_46.f api_Row_with_47_64.f rightS
  rw [(rise_eq (l := l) (by omega) (by omega)).1, Option.bind_some, show (0 : Int) = ((0 : Nat) : Int) from rfl, e1, Option.bind_some, Option.bind_some, show ((0 : Nat) : Int) = 0 from rfl, e2, Bool.not_not]
  cases riseB l <;> rfl
 ·
  have h := rok_l0 hs hl l.length 0 k (by omega) (by omega)
  rw [List.drop_zero] at h
  unfold r08_Right.f rightS
  rw [Bool.and_comm]
  exact h
end Go.Proofs.YtgcbejidponoaaaGreatDoor.Pure
end
section
namespace Go.Proofs.YtgcbejidponoaaaGreatDoor.Pure
open Go.RowKit Go.Proofs.YtgcbejidponoaaaGreatDoor.X Go.Proofs.YtgcbejidponoaaaGreatDoorW.PrintWords Go.Proofs.YtgcbejidponoaaaGreatDoorW.PrintLast Go.Proofs.YtgcbejidponoaaaGreatDoorW.PrintMore Go.Proofs.YtgcbejidponoaaaGreatDoor.Aid Go.Proofs.YtgcbejidponoaaaGreatDoor.Bytes
abbrev Ch := S48
def goneC (x : Rw) : Ch := ⟨⟨x.f0, x.f1, ⟨0, false⟩⟩, true⟩
def newC (x : Rw) : Ch := ⟨x, false⟩
def ck (c : Ch) : Key := key c.f0
theorem ck_new (x : Rw) : ck (newC x) = key x := rfl
noncomputable instance : DecidableEq Rw := Classical.typeDecidableEq _
noncomputable def mer : List Rw → List Rw → List Ch
 | [], [] => []
 | a :: l, [] => goneC a :: mer l []
 | [], b :: m => newC b :: mer [] m
 | a :: l, b :: m => if lt (key a) (key b) = true then goneC a :: mer l (b :: m) else if lt (key b) (key a) = true then newC b :: mer (a :: l) m else if a = b then mer l m else newC b :: mer l m
termination_by a b => a.length + b.length
def RiseC (l : List Ch) : Prop := l.Pairwise fun a b => lt (ck a) (ck b) = true
def Is (a b : List Rw) (c : Ch) : Prop := (∃ x ∈ a, c = goneC x ∧ ∀ y ∈ b, key y ≠ key x) ∨ (∃ y ∈ b, c = newC y ∧ y ∉ a)
theorem mer_mem (c : Ch) : ∀ (a b : List Rw), Rise a → Rise b → (c ∈ mer a b ↔ Is a b c)
 | [], [], _, _ => by
  rw [mer]
  constructor
  ·
   intro h; cases h
  ·
   rintro (⟨x, h, _⟩ | ⟨x, h, _⟩) <;> cases h
 | a :: l, [], ha, hb => by
  rw [mer, List.mem_cons, mer_mem c l [] (List.pairwise_cons.mp ha).2 hb]
  constructor
  ·
   rintro (h | ⟨x, hx, e, h⟩ | ⟨x, hx, _⟩)
   ·
    exact .inl ⟨a, List.mem_cons_self, h, fun y hy => by cases hy⟩
   ·
    exact .inl ⟨x, List.mem_cons_of_mem _ hx, e, h⟩
   ·
    cases hx
  ·
   rintro (⟨x, hx, e, h⟩ | ⟨x, hx, _⟩)
   ·
    rcases List.mem_cons.mp hx with rfl | hx
    ·
     exact .inl e
    ·
     exact .inr (.inl ⟨x, hx, e, h⟩)
   ·
    cases hx
 | [], b :: m, ha, hb => by
  rw [mer, List.mem_cons, mer_mem c [] m ha (List.pairwise_cons.mp hb).2]
  constructor
  ·
   rintro (h | ⟨x, hx, _⟩ | ⟨x, hx, e, h⟩)
   ·
    exact .inr ⟨b, List.mem_cons_self, h, fun h => by cases h⟩
   ·
    cases hx
   ·
    exact .inr ⟨x, List.mem_cons_of_mem _ hx, e, h⟩
  ·
   rintro (⟨x, hx, _⟩ | ⟨x, hx, e, h⟩)
   ·
    cases hx
   ·
    rcases List.mem_cons.mp hx with rfl | hx
    ·
     exact .inl e
    ·
     exact .inr (.inr ⟨x, hx, e, h⟩)
 | a :: l, b :: m, ha, hb => by
  have h1 := List.pairwise_cons.mp ha
  have h2 := List.pairwise_cons.mp hb
  have la : ∀ x ∈ l, key x ≠ key a := fun x hx e => by
   have := h1.1 x hx
   rw [e, lt_irrefl] at this
   cases this
  have lb : ∀ x ∈ m, key x ≠ key b := fun x hx e => by
   have := h2.1 x hx
   rw [e, lt_irrefl] at this
   cases this
  rw [mer]
  by_cases c1 : lt (key a) (key b) = true
  ·
   have far : ∀ y ∈ b :: m, key y ≠ key a := fun y hy => by
    rcases List.mem_cons.mp hy with rfl | hy
    ·
     exact (lt_ne c1).symm
    ·
     exact (lt_ne (lt_trans c1 (h2.1 y hy))).symm
   rw [if_pos c1, List.mem_cons, mer_mem c l (b :: m) h1.2 hb]
   constructor
   ·
    rintro (h | ⟨x, hx, e, h⟩ | ⟨y, hy, e, h⟩)
    ·
     exact .inl ⟨a, List.mem_cons_self, h, far⟩
    ·
     exact .inl ⟨x, List.mem_cons_of_mem _ hx, e, h⟩
    ·
     refine .inr ⟨y, hy, e, fun hm => ?_⟩
     rcases List.mem_cons.mp hm with rfl | hm
     ·
      exact far y hy rfl
     ·
      exact h hm
   ·
    rintro (⟨x, hx, e, h⟩ | ⟨y, hy, e, h⟩)
    ·
     rcases List.mem_cons.mp hx with rfl | hx
     ·
      exact .inl e
     ·
      exact .inr (.inl ⟨x, hx, e, h⟩)
    ·
     exact .inr (.inr ⟨y, hy, e, fun hm => h (List.mem_cons_of_mem _ hm)⟩)
  ·
   rw [if_neg c1]
   by_cases c2 : lt (key b) (key a) = true
   ·
    have far : ∀ y ∈ a :: l, key y ≠ key b := fun y hy => by
     rcases List.mem_cons.mp hy with rfl | hy
     ·
      exact (lt_ne c2).symm
     ·
      exact (lt_ne (lt_trans c2 (h1.1 y hy))).symm
    rw [if_pos c2, List.mem_cons, mer_mem c (a :: l) m ha h2.2]
    constructor
    ·
     rintro (h | ⟨x, hx, e, h⟩ | ⟨y, hy, e, h⟩)
     ·
      exact .inr ⟨b, List.mem_cons_self, h, fun hm => far b hm rfl⟩
     ·
      refine .inl ⟨x, hx, e, fun y hy => ?_⟩
      rcases List.mem_cons.mp hy with rfl | hy
      ·
       exact fun e2 => far x hx e2.symm
      ·
       exact h y hy
     ·
      exact .inr ⟨y, List.mem_cons_of_mem _ hy, e, h⟩
    ·
     rintro (⟨x, hx, e, h⟩ | ⟨y, hy, e, h⟩)
     ·
      exact .inr (.inl ⟨x, hx, e, fun y hy => h y (List.mem_cons_of_mem _ hy)⟩)
     ·
      rcases List.mem_cons.mp hy with rfl | hy
      ·
       exact .inl e
      ·
       exact .inr (.inr ⟨y, hy, e, h⟩)
   ·
    have ek : key a = key b := by
     rcases lt_total (key a) (key b) with h | h | h
     ·
      exact absurd h c1
     ·
      exact h
     ·
      exact absurd h c2
    have rec1 := mer_mem c l m h1.2 h2.2
    have back : Is l m c → Is (a :: l) (b :: m) c := by
     rintro (⟨x, hx, e, h⟩ | ⟨y, hy, e, h⟩)
     ·
      refine .inl ⟨x, List.mem_cons_of_mem _ hx, e, fun y hy => ?_⟩
      rcases List.mem_cons.mp hy with rfl | hy
      ·
       exact fun e2 => la x hx (by rw [← e2, ek])
      ·
       exact h y hy
     ·
      refine .inr ⟨y, List.mem_cons_of_mem _ hy, e, fun hm => ?_⟩
      rcases List.mem_cons.mp hm with rfl | hm
      ·
       exact lb y hy ek
      ·
       exact h hm
    have there : Is (a :: l) (b :: m) c → (c = newC b ∧ a ≠ b) ∨ Is l m c := by
     rintro (⟨x, hx, e, h⟩ | ⟨y, hy, e, h⟩)
     ·
      rcases List.mem_cons.mp hx with rfl | hx
      ·
       exact absurd ek.symm (h b List.mem_cons_self)
      ·
       exact .inr (.inl ⟨x, hx, e, fun y hy => h y (List.mem_cons_of_mem _ hy)⟩)
     ·
      rcases List.mem_cons.mp hy with rfl | hy
      ·
       exact .inl ⟨e, fun e2 => h (by rw [e2]; exact List.mem_cons_self)⟩
      ·
       exact .inr (.inr ⟨y, hy, e, fun hm => h (List.mem_cons_of_mem _ hm)⟩)
    rw [if_neg c2]
    by_cases c3 : a = b
    ·
     rw [if_pos c3, rec1]
     exact ⟨back, fun h => (there h).elim (fun h => absurd c3 h.2) id⟩
    ·
     rw [if_neg c3, List.mem_cons, rec1]
     constructor
     ·
      rintro (h | h)
      ·
       refine .inr ⟨b, List.mem_cons_self, h, fun hm => ?_⟩
       rcases List.mem_cons.mp hm with hm | hm
       ·
        exact c3 hm.symm
       ·
        exact la b hm ek.symm
      ·
       exact back h
     ·
      intro h
      rcases there h with h | h
      ·
       exact .inl h.1
      ·
       exact .inr h
termination_by a b => a.length + b.length
theorem is_key {a b : List Rw} {c : Ch} (h : Is a b c) : (∃ x ∈ a, ck c = key x) ∨ (∃ y ∈ b, ck c = key y) := by
 rcases h with ⟨x, hx, e, _⟩ | ⟨y, hy, e, _⟩
 ·
  exact .inl ⟨x, hx, by rw [e]; rfl⟩
 ·
  exact .inr ⟨y, hy, by rw [e]; rfl⟩
theorem mer_rise : ∀ (a b : List Rw), Rise a → Rise b → RiseC (mer a b)
 | [], [], _, _ => by rw [mer]; exact List.Pairwise.nil
 | a :: l, [], ha, hb => by
  have h1 := List.pairwise_cons.mp ha
  rw [mer]
  refine List.pairwise_cons.mpr ⟨fun c hc => ?_, mer_rise l [] h1.2 hb⟩
  rcases is_key ((mer_mem c l [] h1.2 hb).mp hc) with ⟨x, hx, e⟩ | ⟨x, hx, _⟩
  ·
   rw [e]; exact h1.1 x hx
  ·
   cases hx
 | [], b :: m, ha, hb => by
  have h2 := List.pairwise_cons.mp hb
  rw [mer]
  refine List.pairwise_cons.mpr ⟨fun c hc => ?_, mer_rise [] m ha h2.2⟩
  rcases is_key ((mer_mem c [] m ha h2.2).mp hc) with ⟨x, hx, _⟩ | ⟨x, hx, e⟩
  ·
   cases hx
  ·
   rw [e]; exact h2.1 x hx
 | a :: l, b :: m, ha, hb => by
  have h1 := List.pairwise_cons.mp ha
  have h2 := List.pairwise_cons.mp hb
  rw [mer]
  by_cases c1 : lt (key a) (key b) = true
  ·
   rw [if_pos c1]
   refine List.pairwise_cons.mpr ⟨fun c hc => ?_, mer_rise l (b :: m) h1.2 hb⟩
   rcases is_key ((mer_mem c l (b :: m) h1.2 hb).mp hc) with ⟨x, hx, e⟩ | ⟨x, hx, e⟩
   ·
    rw [e]; exact h1.1 x hx
   ·
    rw [e]
    rcases List.mem_cons.mp hx with rfl | hx
    ·
     exact c1
    ·
     exact lt_trans c1 (h2.1 x hx)
  ·
   rw [if_neg c1]
   by_cases c2 : lt (key b) (key a) = true
   ·
    rw [if_pos c2]
    refine List.pairwise_cons.mpr ⟨fun c hc => ?_, mer_rise (a :: l) m ha h2.2⟩
    rcases is_key ((mer_mem c (a :: l) m ha h2.2).mp hc) with ⟨x, hx, e⟩ | ⟨x, hx, e⟩
    ·
     rw [e]
     rcases List.mem_cons.mp hx with rfl | hx
     ·
      exact c2
     ·
      exact lt_trans c2 (h1.1 x hx)
    ·
     rw [e]; exact h2.1 x hx
   ·
    have ek : key a = key b := by
     rcases lt_total (key a) (key b) with h | h | h
     ·
      exact absurd h c1
     ·
      exact h
     ·
      exact absurd h c2
    rw [if_neg c2]
    by_cases c3 : a = b
    ·
     rw [if_pos c3]
     exact mer_rise l m h1.2 h2.2
    ·
     rw [if_neg c3]
     refine List.pairwise_cons.mpr ⟨fun c hc => ?_, mer_rise l m h1.2 h2.2⟩
     rw [ck_new]
     rcases is_key ((mer_mem c l m h1.2 h2.2).mp hc) with ⟨x, hx, e⟩ | ⟨x, hx, e⟩
     ·
      rw [e, ← ek]; exact h1.1 x hx
     ·
      rw [e]; exact h2.1 x hx
termination_by a b => a.length + b.length
theorem mer_len : ∀ (a b : List Rw), (mer a b).length ≤ a.length + b.length
 | [], [] => by rw [mer]; exact Nat.zero_le _
 | a :: l, [] => by
  have := mer_len l []
  rw [mer, List.length_cons, List.length_cons]
  omega
 | [], b :: m => by
  have := mer_len [] m
  rw [mer, List.length_cons, List.length_cons]
  omega
 | a :: l, b :: m => by
  rw [mer]
  split
  ·
   have := mer_len l (b :: m)
   simp only [List.length_cons] at this ⊢
   omega
  ·
   split
   ·
    have := mer_len (a :: l) m
    simp only [List.length_cons] at this ⊢
    omega
   ·
    have := mer_len l m
    split
    ·
     simp only [List.length_cons]
     omega
    ·
     simp only [List.length_cons]
     omega
termination_by a b => a.length + b.length
end Go.Proofs.YtgcbejidponoaaaGreatDoor.Pure
end
section
namespace Go.Proofs.YtgcbejidponoaaaGreatDoor.Pure
open Go.RowKit Go.Proofs.YtgcbejidponoaaaGreatDoor.X Go.Proofs.YtgcbejidponoaaaGreatDoorW.PrintWords Go.Proofs.YtgcbejidponoaaaGreatDoorW.PrintLast Go.Proofs.YtgcbejidponoaaaGreatDoorW.PrintMore Go.Proofs.YtgcbejidponoaaaGreatDoor.Aid Go.Proofs.YtgcbejidponoaaaGreatDoor.Bytes
theorem rdC {l : List Ch} {i : Nat} (h : i < l.length) : rd_T48 l (i : Int) = l[i] := getD_at h _
theorem rw_ne (x y : Rw) : ((!(x.f0 == y.f0) || (!(x.f1.toList == y.f1.toList) || (!(x.f2.f0 == y.f2.f0) || !(x.f2.f1 == y.f2.f1)))) = true) ↔ x ≠ y := by
 have hb : x.f1.toList = y.f1.toList ↔ x.f1 = y.f1 := by
  constructor
  ·
   intro h
   rw [bl_toList, bl_toList] at h
   rw [← bl_eta x.f1, ← bl_eta y.f1, h]
  ·
   intro h
   rw [h]
 obtain ⟨a, b, c, d⟩ := x
 obtain ⟨a', b', c', d'⟩ := y
 simp only [Bool.or_eq_true, Bool.not_eq_true', beq_eq_false_iff_ne, ne_eq, S45.mk.injEq, S43.mk.injEq]
 simp only at hb
 rw [hb]
 by_cases h1 : a = a' <;> by_cases h2 : b = b' <;> by_cases h3 : c = c' <;> by_cases h4 : d = d' <;> simp [h1, h2, h3, h4]
end Go.Proofs.YtgcbejidponoaaaGreatDoor.Pure
end
section
namespace Go.Proofs.YtgcbejidponoaaaGreatDoor.Pure
open Go.RowKit Go.Proofs.YtgcbejidponoaaaGreatDoor.X Go.Proofs.YtgcbejidponoaaaGreatDoorW.PrintWords Go.Proofs.YtgcbejidponoaaaGreatDoorW.PrintLast Go.Proofs.YtgcbejidponoaaaGreatDoorW.PrintMore Go.Proofs.YtgcbejidponoaaaGreatDoor.Aid Go.Proofs.YtgcbejidponoaaaGreatDoor.Bytes
theorem of_l0 : ∀ (a b : List Rw) (k : Nat) (acc : List Ch), 4 * (a.length + b.length) + 20 ≤ k → acc.length + a.length + b.length ≤ 100000 → diff_Of.l0 k a b acc = some (acc ++ mer a b, 0)
 | [], [], k, acc, hk, _ => by
  obtain ⟨k, rfl⟩ : ∃ m, k = m + 1 + 1 := ⟨k - 2, by omega⟩
  rw [diff_Of.l0, if_neg (by simp), diff_Of.j2, mer, List.append_nil, if_neg (by simp)]
 | a :: l, [], k, acc, hk, hb => by
  obtain ⟨k, rfl⟩ : ∃ m, k = m + 1 + 1 + 1 := ⟨k - 3, by omega⟩
  rw [List.length_cons, List.length_nil] at hk hb
  have hp : ((a :: l).length : Int) > 0 := by rw [List.length_cons]; omega
  have h1 : 1 ≤ ((a :: l).length : Int) := hp
  have e : acc ++ [(⟨(⟨a.f0, a.f1, (⟨0, false⟩ : S43)⟩ : Rw), true⟩ : Ch)] = acc ++ [goneC a] := rfl
  have r0 : rd_T45 (a :: l) 0 = a := rfl
  have ih := of_l0 l [] k (acc ++ [goneC a]) (by rw [List.length_nil]; omega) (by rw [List.length_append, List.length_singleton, List.length_nil]; omega)
  rw [diff_Of.l0, if_pos hp, diff_Of.j2, if_pos rfl, if_pos (by simp), diff_Of.j3, if_pos rfl, if_pos hp, r0, diff_gone.f, Option.bind_some, if_pos (by omega), if_pos h1, e, mer]
  rw [List.append_assoc] at ih
  exact ih
 | [], b :: m, k, acc, hk, hb => by
  obtain ⟨k, rfl⟩ : ∃ m, k = m + 1 + 1 + 1 + 1 := ⟨k - 4, by omega⟩
  rw [List.length_cons, List.length_nil] at hk hb
  have hp : ((b :: m).length : Int) > 0 := by rw [List.length_cons]; omega
  have h1 : 1 ≤ ((b :: m).length : Int) := hp
  have hz : ¬ ((b :: m).length : Int) = 0 := by rw [List.length_cons]; omega
  have e : acc ++ [(⟨(⟨b.f0, b.f1, (⟨b.f2.f0, b.f2.f1⟩ : S43)⟩ : Rw), false⟩ : Ch)] = acc ++ [newC b] := rfl
  have r0 : rd_T45 (b :: m) 0 = b := rfl
  have ih := of_l0 [] m k (acc ++ [newC b]) (by rw [List.length_nil]; omega) (by rw [List.length_append, List.length_singleton, List.length_nil]; omega)
  rw [diff_Of.l0, if_neg (by simp), decide_eq_true hp, diff_Of.j2, if_pos rfl, if_neg hz, if_neg (by simp), diff_Of.j3, if_neg (by decide), if_pos (by simp), diff_Of.j4, if_pos rfl, if_pos hp, r0, if_pos (by omega), if_pos h1, e, mer]
  rw [List.append_assoc] at ih
  exact ih
 | a :: l, b :: m, k, acc, hk, hb => by
  obtain ⟨k, rfl⟩ : ∃ m, k = m + 1 + 1 + 1 + 1 := ⟨k - 4, by omega⟩
  simp only [List.length_cons] at hk hb
  have hp : ((a :: l).length : Int) > 0 := by rw [List.length_cons]; omega
  have h1 : 1 ≤ ((a :: l).length : Int) := hp
  have hz : ¬ ((a :: l).length : Int) = 0 := by rw [List.length_cons]; omega
  have hq : ((b :: m).length : Int) > 0 := by rw [List.length_cons]; omega
  have h2 : 1 ≤ ((b :: m).length : Int) := hq
  have hy : ¬ ((b :: m).length : Int) = 0 := by rw [List.length_cons]; omega
  have e : acc ++ [(⟨(⟨a.f0, a.f1, (⟨0, false⟩ : S43)⟩ : Rw), true⟩ : Ch)] = acc ++ [goneC a] := rfl
  have e2 : acc ++ [(⟨(⟨b.f0, b.f1, (⟨b.f2.f0, b.f2.f1⟩ : S43)⟩ : Rw), false⟩ : Ch)] = acc ++ [newC b] := rfl
  have ra : rd_T45 (a :: l) 0 = a := rfl
  have rb : rd_T45 (b :: m) 0 = b := rfl
  have da : (a :: l).drop 1 = l := rfl
  have db : (b :: m).drop 1 = m := rfl
  have ln : ∀ c : Ch, (acc ++ [c]).length = acc.length + 1 := fun c => by rw [List.length_append, List.length_singleton]
  rw [diff_Of.l0, if_pos hp, diff_Of.j2, if_pos rfl, if_neg hy, if_pos hp, if_pos hp, if_pos hq, ra, rb, before_eq a b (by omega), Option.bind_some, mer]
  by_cases c1 : lt (key a) (key b) = true
  ·
   have ih := of_l0 l (b :: m) (k + 1) (acc ++ [goneC a]) (by simp only [List.length_cons]; omega) (by rw [ln]; simp only [List.length_cons]; omega)
   rw [List.append_assoc] at ih
   rw [if_pos c1, c1, diff_Of.j3, if_pos rfl, if_pos hp, ra, diff_gone.f, Option.bind_some, if_pos (by omega), if_pos h1, e, da]
   exact ih
  ·
   rw [if_neg c1, Bool.eq_false_iff.mpr c1, diff_Of.j3, if_neg (by decide), if_neg hz, if_pos hq, if_pos hp, ra, rb, before_eq b a (by omega), Option.bind_some]
   by_cases c2 : lt (key b) (key a) = true
   ·
    have ih := of_l0 (a :: l) m k (acc ++ [newC b]) (by simp only [List.length_cons]; omega) (by rw [ln]; simp only [List.length_cons]; omega)
    rw [List.append_assoc] at ih
    rw [if_pos c2, c2, diff_Of.j4, if_pos rfl, if_pos hq, rb, if_pos (by omega), if_pos h2, e2, db]
    exact ih
   ·
    rw [if_neg c2, Bool.eq_false_iff.mpr c2, diff_Of.j4, if_neg (by decide), if_pos hp, if_pos hq, ra, rb]
    by_cases c3 : a = b
    ·
     have ih := of_l0 l m k acc (by omega) (by omega)
     rw [if_neg (mt (rw_ne a b).mp (fun h => h c3)), if_pos c3, if_pos h1, if_pos h2, da, db]
     exact ih
    ·
     have ih := of_l0 l m k (acc ++ [newC b]) (by omega) (by rw [ln]; omega)
     rw [List.append_assoc] at ih
     rw [if_pos ((rw_ne a b).mpr c3), if_neg c3, if_pos (by omega), if_pos h1, if_pos h2, da, db, e2]
     exact ih
termination_by a b => a.length + b.length
noncomputable def ofS (a b : List Rw) : List Ch × Int := if rightS a = true then (if rightS b = true then (mer a b, 0) else ([], 9)) else ([], 9)
theorem of_eq {a b : List Rw} (sa : ShR a) (sb : ShR b) (la : a.length ≤ 1000) (lb : b.length ≤ 1000) {k : Nat} (hk : 36000 ≤ k) : diff_Of.f k a b = some (ofS a b) := by
 obtain ⟨k, rfl⟩ : ∃ m, k = m + 1 := ⟨k - 1, by omega⟩
 unfold diff_Of.f ofS
 rw [(right_eq sa la (by omega)).1, Option.bind_some, (right_eq sb lb (by omega)).1, Option.bind_some]
 by_cases h : rightS a = true
 ·
  rw [if_pos h, if_pos h, diff_Of.j0]
  by_cases h2 : rightS b = true
  ·
   rw [if_pos h2, h2, if_neg (by decide), of_l0 a b k [] (by omega) (by simp; omega)]
   rfl
  ·
   rw [if_neg h2, Bool.eq_false_iff.mpr h2, if_pos (show (!false) = true from rfl)]
 ·
  rw [if_neg h, if_neg h, diff_Of.j0, if_pos rfl]
theorem right_rise {l : List Rw} (h : rightS l = true) : Rise l := (riseB_iff l).mp (Bool.and_eq_true_iff.mp h).1
end Go.Proofs.YtgcbejidponoaaaGreatDoor.Pure
end
section
namespace Go.Proofs.YtgcbejidponoaaaGreatDoor.Pure
open Go.RowKit Go.Proofs.YtgcbejidponoaaaGreatDoor.X Go.Proofs.YtgcbejidponoaaaGreatDoorW.PrintWords Go.Proofs.YtgcbejidponoaaaGreatDoorW.PrintLast Go.Proofs.YtgcbejidponoaaaGreatDoorW.PrintMore Go.Proofs.YtgcbejidponoaaaGreatDoor.Aid Go.Proofs.YtgcbejidponoaaaGreatDoor.Bytes
def bare (c : Ch) : Bool := !c.f1 || (c.f0.f2.f0 == 0 && !c.f0.f2.f1)
def rightC (l : List Ch) : Bool := l.all bare && rightS (l.map (·.f0))
theorem bare_neg (c : Ch) (h : c.f1 = true) : ((!(c.f0.f0 == c.f0.f0) || (!(c.f0.f1.toList == c.f0.f1.toList) || (!(c.f0.f2.f0 == 0) || !(c.f0.f2.f1 == false)))) || !(c.f1 == true)) = !bare c := by
 unfold bare
 rw [h]
 cases c.f0.f2.f1 <;> simp
theorem cright_l0 {l : List Ch} (hs : ShR (l.map (·.f0))) (hl : l.length ≤ 1000) (d : Nat) : ∀ (i k : Nat), i + d = l.length → d + 36000 < k → (∀ c ∈ l.take i, bare c = true) →
 diff_right.l0 k ((l.take i).map (·.f0)) l (l.length : Int) (i : Int) = some (rightC l) := by
 induction d with
 | zero =>
  intro i k hi hk hb
  obtain ⟨k, rfl⟩ := succ_of hk
  have ht : l.take i = l := List.take_of_length_le (by omega)
  rw [ht] at hb ⊢
  simp only [diff_right.l0]
  rw [if_neg (by omega), (right_eq hs (by rw [List.length_map]; exact hl) (by omega)).1, Option.bind_some]
  unfold rightC
  rw [List.all_eq_true.2 hb, Bool.true_and]
 | succ d ih =>
  intro i k hi hk hb
  obtain ⟨k, rfl⟩ := succ_of hk
  have hlt : i < l.length := by omega
  have h0 : (l.take (i + 1)).map (·.f0) = (l.take i).map (·.f0) ++ [l[i].f0] := by rw [take_at hlt, List.map_append]; rfl
  have hlen : ((l.take i).map (·.f0)).length < 3518437208883 := by rw [List.length_map, List.length_take]; omega
  simp only [diff_right.l0]
  rw [if_pos (by omega), if_pos (by omega), if_pos (by omega), rdC hlt, w64s (by omega)]
  have hnext : bare l[i] = true → diff_right.l0 k ((l.take i).map (·.f0) ++ [l[i].f0]) l (l.length : Int) ((i + 1 : Nat) : Int) = some (rightC l) := fun hbi => by
   rw [← h0]
   refine ih (i + 1) k (by omega) (by omega) fun c hc => ?_
   rw [take_at hlt, List.mem_append, List.mem_singleton] at hc
   rcases hc with hc | rfl
   ·
    exact hb c hc
   ·
    exact hbi
  by_cases hg : l[i].f1 = true
  ·
   rw [if_pos hg]
   simp only [diff_gone.f, Option.bind_some]
   rw [bare_neg _ hg]
   by_cases hbi : bare l[i] = true
   ·
    rw [hbi, if_neg (by decide), if_pos hlen]
    exact hnext hbi
   ·
    rw [Bool.eq_false_iff.2 hbi, if_pos (show (!false) = true from rfl)]
    unfold rightC
    have : l.all bare = false := by
     rw [Bool.eq_false_iff]
     intro h
     exact hbi (List.all_eq_true.1 h _ (List.getElem_mem hlt))
    rw [this, Bool.false_and]
  ·
   rw [if_neg hg, if_pos hlen]
   exact hnext (by unfold bare; rw [Bool.eq_false_iff.2 hg]; rfl)
theorem cright_eq {l : List Ch} (hs : ShR (l.map (·.f0))) (hl : l.length ≤ 1000) {k : Nat} (hk : 37100 ≤ k) : diff_right.f k l = some (rightC l) :=
 cright_l0 hs hl l.length 0 k (by omega) (by omega) (fun c hc => by simp at hc)
def ahead (c : Ch) (l : List Rw) : List Rw := l.takeWhile fun x => lt (key x) (ck c)
def behind (c : Ch) (l : List Rw) : List Rw := l.dropWhile fun x => lt (key x) (ck c)
theorem ahead_cons (c : Ch) (x : Rw) (l : List Rw) : ahead c (x :: l) = if lt (key x) (ck c) = true then x :: ahead c l else [] := by
 unfold ahead
 rw [List.takeWhile_cons]
theorem behind_cons (c : Ch) (x : Rw) (l : List Rw) : behind c (x :: l) = if lt (key x) (ck c) = true then behind c l else x :: l := by
 unfold behind
 rw [List.dropWhile_cons]
theorem ahead_behind (c : Ch) (l : List Rw) : ahead c l ++ behind c l = l := List.takeWhile_append_dropWhile
theorem len_ab (c : Ch) (l : List Rw) : (ahead c l).length + (behind c l).length = l.length := by
 conv => rhs; rw [← ahead_behind c l]
 rw [List.length_append]
def there (c : Ch) : List Rw → Bool
 | [] => false
 | y :: _ => !lt (ck c) (key y)
def past (c : Ch) (l : List Rw) : List Rw := if there c l = true then l.drop 1 else l
def apP : List Ch → List Rw → List Rw → List Rw × Int
 | [], out, rest => (out ++ rest, 0)
 | c :: cs, out, rest => if c.f1 = true then (if there c (behind c rest) = true then apP cs (out ++ ahead c rest) (past c (behind c rest)) else ([], 6)) else apP cs (out ++ ahead c rest ++ [c.f0]) (past c (behind c rest))
theorem past_len (c : Ch) (l : List Rw) : (past c l).length ≤ l.length := by
 unfold past
 split
 ·
  rw [List.length_drop]; omega
 ·
  exact Nat.le_refl _
theorem ap_l1 (c : Ch) (cs : List Ch) (n i : Int) (R : List Rw × Int) (K : Nat) (hK : 3 ≤ K) : ∀ (rest out : List Rw) (k : Nat), (ahead c rest).length + K < k → out.length + rest.length ≤ 100000 →
 (∀ k', K ≤ k' → diff_Apply.j3 k' (out ++ ahead c rest) (behind c rest) cs n i c.f0.f0 c.f0.f1 c.f0.f2.f0 c.f0.f2.f1 c.f1 = some R) →
 diff_Apply.l1 k out rest cs n i c.f0.f0 c.f0.f1 c.f0.f2.f0 c.f0.f2.f1 c.f1 = some R
 | [], out, k, hk, hb, h => by
  obtain ⟨k, rfl⟩ := succ_of hk
  simp only [diff_Apply.l1]
  rw [if_neg (by simp)]
  have h2 := h k (by omega)
  rw [show ahead c [] = [] from rfl, show behind c [] = [] from rfl, List.append_nil] at h2
  exact h2
 | x :: rest, out, k, hk, hb, h => by
  obtain ⟨k, rfl⟩ := succ_of hk
  rw [List.length_cons] at hb
  have hp : ((x :: rest).length : Int) > 0 := by rw [List.length_cons]; omega
  have h1 : 1 ≤ ((x :: rest).length : Int) := hp
  have r0 : rd_T45 (x :: rest) 0 = x := rfl
  simp only [diff_Apply.l1]
  rw [if_pos hp, if_pos hp, r0, before_eq x c.f0 (by omega), Option.bind_some]
  rw [ahead_cons, behind_cons] at h
  rw [ahead_cons] at hk
  by_cases hx : lt (key x) (ck c) = true
  ·
   have hx' : lt (key x) (key c.f0) = true := hx
   rw [if_pos hx, if_pos hx] at h
   rw [if_pos hx, List.length_cons] at hk
   rw [if_pos hx', if_pos (by omega), if_pos h1]
   refine ap_l1 c cs n i R K hK rest (out ++ [x]) k (by omega) (by rw [List.length_append, List.length_singleton]; omega) fun k' hk' => ?_
   rw [List.append_assoc]
   exact h k' hk'
  ·
   have hx' : ¬ lt (key x) (key c.f0) = true := hx
   rw [if_neg hx, if_neg hx, List.append_nil] at h
   rw [if_neg hx']
   exact h k (by omega)
theorem ap_j5 (c : Ch) (cs : List Ch) (n : Int) (i : Nat) (hi : i < 100000) (t : Bool) (o p : List Rw) (ho : o.length ≤ 100000) (R : List Rw × Int) (k : Nat)
 (h1 : c.f1 = true → t = true → diff_Apply.l0 k o p cs n ((i + 1 : Nat) : Int) = some R) (h2 : c.f1 = true → t = false → R = ([], 6)) (h3 : c.f1 = false → diff_Apply.l0 k (o ++ [c.f0]) p cs n ((i + 1 : Nat) : Int) = some R) :
 diff_Apply.j5 (k + 1) o p t cs n (i : Int) c.f0.f0 c.f0.f1 c.f0.f2.f0 c.f0.f2.f1 c.f1 = some R := by
 simp only [diff_Apply.j5]
 rw [w64s (by omega)]
 by_cases hc : c.f1 = true
 ·
  rw [if_pos hc]
  cases t with
  | true => rw [if_pos rfl]; exact h1 hc rfl
  | false => rw [if_neg (by decide), h2 hc rfl]
 ·
  rw [if_neg hc, if_pos (by omega)]
  exact h3 (Bool.eq_false_iff.2 hc)
theorem ap_l0 {cs : List Ch} (hn : cs.length ≤ 1000) (d : Nat) : ∀ (i k : Nat) (out rest : List Rw), i + d = cs.length → 8 * d + rest.length + 20 < k → out.length + rest.length + d ≤ 10000 →
 diff_Apply.l0 k out rest cs (cs.length : Int) (i : Int) = some (apP (cs.drop i) out rest) := by
 induction d with
 | zero =>
  intro i k out rest hi hk hb
  obtain ⟨k, rfl⟩ := succ_of hk
  simp only [diff_Apply.l0]
  rw [if_neg (by omega), if_pos (by omega), List.drop_of_length_le (by omega)]
  rfl
 | succ d ih =>
  intro i k out rest hi hk hb
  obtain ⟨k, rfl⟩ := succ_of hk
  have hlt : i < cs.length := by omega
  have hab := len_ab cs[i] rest
  have hpl := past_len cs[i] (behind cs[i] rest)
  simp only [diff_Apply.l0]
  rw [if_pos (by omega), if_pos (by omega), if_pos (by omega), rdC hlt, drop_at hlt]
  refine ap_l1 cs[i] cs _ _ _ (8 * d + (behind cs[i] rest).length + 26) (by omega) rest out k (by omega) (by omega) fun k' hk' => ?_
  obtain ⟨k', rfl⟩ : ∃ m, k' = m + 1 + 1 + 1 := ⟨k' - 3, by omega⟩
  have hfin : ∀ (p : List Rw), p = past cs[i] (behind cs[i] rest) → diff_Apply.j5 (k' + 1) (out ++ ahead cs[i] rest) p (there cs[i] (behind cs[i] rest)) cs (cs.length : Int) (i : Int) cs[i].f0.f0 cs[i].f0.f1 cs[i].f0.f2.f0 cs[i].f0.f2.f1 cs[i].f1 = some (apP (cs[i] :: cs.drop (i + 1)) out rest) := fun p hp => by
   subst hp
   refine ap_j5 cs[i] cs _ i (by omega) _ _ _ (by rw [List.length_append]; omega) _ k' (fun a b => ?_) (fun a b => ?_) (fun a => ?_)
   ·
    rw [apP, if_pos a, if_pos b]
    exact ih (i + 1) k' _ _ (by omega) (by omega) (by rw [List.length_append]; omega)
   ·
    rw [apP, if_pos a, if_neg (by rw [b]; decide)]
   ·
    rw [apP, if_neg (by rw [a]; decide)]
    exact ih (i + 1) k' _ _ (by omega) (by omega) (by rw [List.length_append, List.length_append, List.length_singleton]; omega)
  simp only [diff_Apply.j3]
  cases hb2 : behind cs[i] rest with
  | nil =>
   rw [hb2] at hfin
   rw [if_neg (by simp)]
   simp only [diff_Apply.j4]
   rw [if_neg (by decide)]
   exact hfin [] rfl
  | cons y ys =>
   rw [hb2] at hfin
   have hp : ((y :: ys).length : Int) > 0 := by rw [List.length_cons]; omega
   have r0 : rd_T45 (y :: ys) 0 = y := rfl
   rw [if_pos hp, if_pos hp, r0, before_eq cs[i].f0 y (by omega), Option.bind_some]
   simp only [diff_Apply.j4]
   have ht : there cs[i] (y :: ys) = !lt (key cs[i].f0) (key y) := rfl
   rw [← ht]
   by_cases h : there cs[i] (y :: ys) = true
   ·
    rw [if_pos h, if_pos (show (1 : Int) ≤ ((y :: ys).length : Int) from hp)]
    exact hfin _ (by unfold past; rw [if_pos h])
   ·
    rw [if_neg h]
    exact hfin _ (by unfold past; rw [if_neg h])
def applyS (l : List Rw) (c : List Ch) : List Rw × Int := if rightS l = true then (if rightC c = true then apP c [] l else ([], 9)) else ([], 9)
theorem apply_eq {l : List Rw} {c : List Ch} (sl : ShR l) (ll : l.length ≤ 1000) (sc : ShR (c.map (·.f0))) (lc : c.length ≤ 1000) {k : Nat} (hk : 40000 ≤ k) : diff_Apply.f k l c = some (applyS l c) := by
 obtain ⟨m, rfl⟩ : ∃ m, k = m + 1 := ⟨k - 1, by omega⟩
 unfold diff_Apply.f applyS
 rw [(right_eq sl ll (by omega)).1, Option.bind_some]
 by_cases h : rightS l = true
 ·
  rw [if_pos h, if_pos h, cright_eq sc lc (by omega), Option.bind_some]
  simp only [diff_Apply.j0]
  by_cases h2 : rightC c = true
  ·
   rw [if_pos h2, h2, if_neg (by decide)]
   exact ap_l0 lc c.length 0 m [] l (by omega) (by omega) (by simp; omega)
  ·
   rw [if_neg h2, Bool.eq_false_iff.2 h2, if_pos (by decide)]
 ·
  rw [if_neg h, if_neg h]
  simp only [diff_Apply.j0]
  rw [if_pos trivial]
theorem ahead_app {c : Ch} {out rest : List Rw} (h : ∀ x ∈ out, lt (key x) (ck c) = true) : ahead c (out ++ rest) = out ++ ahead c rest ∧ behind c (out ++ rest) = behind c rest := by
 induction out with
 | nil => exact ⟨rfl, rfl⟩
 | cons x out ih =>
  obtain ⟨h1, h2⟩ := ih (fun y hy => h y (List.mem_cons_of_mem _ hy))
  rw [List.cons_append, ahead_cons, behind_cons, if_pos (h x List.mem_cons_self), if_pos (h x List.mem_cons_self), h1, h2]
  exact ⟨rfl, rfl⟩
end Go.Proofs.YtgcbejidponoaaaGreatDoor.Pure
end
section
namespace Go.Proofs.YtgcbejidponoaaaGreatDoor.Pure
open Go.RowKit Go.Proofs.YtgcbejidponoaaaGreatDoor.X Go.Proofs.YtgcbejidponoaaaGreatDoorW.PrintWords Go.Proofs.YtgcbejidponoaaaGreatDoorW.PrintLast Go.Proofs.YtgcbejidponoaaaGreatDoorW.PrintMore Go.Proofs.YtgcbejidponoaaaGreatDoor.Aid Go.Proofs.YtgcbejidponoaaaGreatDoor.Bytes
theorem mer_bare {a b : List Rw} (ra : Rise a) (rb : Rise b) : (mer a b).all bare = true := by
 rw [List.all_eq_true]
 intro c hc
 rcases (mer_mem c a b ra rb).mp hc with ⟨x, _, e, _⟩ | ⟨y, _, e, _⟩
 ·
  rw [e]; rfl
 ·
  rw [e]; rfl
theorem mer_rightC {a b : List Rw} (ha : rightS a = true) (hb : rightS b = true) : rightC (mer a b) = true := by
 have ra := right_rise ha
 have rb := right_rise hb
 have oa := List.all_eq_true.1 (Bool.and_eq_true_iff.mp ha).2
 have ob := List.all_eq_true.1 (Bool.and_eq_true_iff.mp hb).2
 unfold rightC rightS
 rw [mer_bare ra rb, Bool.true_and, Bool.and_eq_true]
 refine ⟨(riseB_iff _).mpr ?_, List.all_eq_true.2 fun x hx => ?_⟩
 ·
  exact List.pairwise_map.2 (mer_rise a b ra rb)
 ·
  obtain ⟨c, hc, rfl⟩ := List.mem_map.1 hx
  rcases (mer_mem c a b ra rb).mp hc with ⟨x, hx, e, _⟩ | ⟨y, hy, e, _⟩
  ·
   rw [e]; exact oa x hx
  ·
   rw [e]; exact ob y hy
theorem apP_gone {c : Ch} {cs : List Ch} {out pre a l : List Rw} {x : Rw} (hg : c.f1 = true) (hp : ∀ p ∈ pre, lt (key p) (ck c) = true) (ha : a = x :: l) (hk : key x = ck c) : apP (c :: cs) out (pre ++ a) = apP cs (out ++ pre) l := by
 subst ha
 obtain ⟨e1, e2⟩ := ahead_app (rest := x :: l) hp
 have hn : ¬ lt (key x) (ck c) = true := by rw [hk, lt_irrefl]; decide
 have e3 : ahead c (x :: l) = [] := by rw [ahead_cons, if_neg hn]
 have e4 : behind c (x :: l) = x :: l := by rw [behind_cons, if_neg hn]
 have ht : there c (x :: l) = true := by
  show (!lt (ck c) (key x)) = true
  rw [hk, lt_irrefl]
  rfl
 rw [apP, if_pos hg, e1, e2, e3, e4, if_pos ht, List.append_nil]
 unfold past
 rw [if_pos ht]
 rfl
theorem apP_new {c : Ch} {cs : List Ch} {out pre a : List Rw} (hg : c.f1 = false) (hp : ∀ p ∈ pre, lt (key p) (ck c) = true) (ha : ∀ x l, a = x :: l → lt (ck c) (key x) = true) : apP (c :: cs) out (pre ++ a) = apP cs (out ++ pre ++ [c.f0]) a := by
 obtain ⟨e1, e2⟩ := ahead_app (rest := a) hp
 rw [apP, if_neg (by rw [hg]; decide), e1, e2]
 cases a with
 | nil =>
  rw [show ahead c [] = [] from rfl, show behind c [] = [] from rfl, List.append_nil]
  rfl
 | cons x l =>
  have hx := ha x l rfl
  have hn : ¬ lt (key x) (ck c) = true := by rw [lt_asymm hx]; decide
  have ht : there c (x :: l) = false := by
   show (!lt (ck c) (key x)) = false
   rw [hx]
   rfl
  rw [ahead_cons, behind_cons, if_neg hn, if_neg hn, List.append_nil]
  unfold past
  rw [if_neg (by rw [ht]; decide)]
theorem apP_same {c : Ch} {cs : List Ch} {out pre a l : List Rw} {x : Rw} (hg : c.f1 = false) (hp : ∀ p ∈ pre, lt (key p) (ck c) = true) (ha : a = x :: l) (hk : key x = ck c) : apP (c :: cs) out (pre ++ a) = apP cs (out ++ pre ++ [c.f0]) l := by
 subst ha
 obtain ⟨e1, e2⟩ := ahead_app (rest := x :: l) hp
 have hn : ¬ lt (key x) (ck c) = true := by rw [hk, lt_irrefl]; decide
 have ht : there c (x :: l) = true := by
  show (!lt (ck c) (key x)) = true
  rw [hk, lt_irrefl]
  rfl
 rw [apP, if_neg (by rw [hg]; decide), e1, e2, ahead_cons, behind_cons, if_neg hn, if_neg hn, List.append_nil]
 unfold past
 rw [if_pos ht]
 rfl
theorem mer_app : ∀ (a b out pre : List Rw), Rise a → Rise b → (∀ p ∈ pre, (∀ z ∈ a, lt (key p) (key z) = true) ∧ ∀ z ∈ b, lt (key p) (key z) = true) → apP (mer a b) out (pre ++ a) = (out ++ pre ++ b, 0)
 | [], [], out, pre, _, _, _ => by
  rw [mer, apP]
  simp
 | x :: l, [], out, pre, ra, rb, hp => by
  have ra2 := List.pairwise_cons.1 ra
  rw [mer, apP_gone (c := goneC x) (x := x) (l := l) rfl (fun p hq => (hp p hq).1 x List.mem_cons_self) rfl rfl]
  have := mer_app l [] (out ++ pre) [] ra2.2 rb (fun p hq => by simp at hq)
  rw [List.nil_append] at this
  rw [this]
  simp
 | [], y :: m, out, pre, ra, rb, hp => by
  have rb2 := List.pairwise_cons.1 rb
  rw [mer, apP_new (c := newC y) rfl (fun p hq => (hp p hq).2 y List.mem_cons_self) (fun x l e => by cases e)]
  have := mer_app [] m (out ++ pre ++ [y]) [] ra rb2.2 (fun p hq => by simp at hq)
  rw [List.nil_append] at this
  rw [show (newC y).f0 = y from rfl, this]
  simp
 | x :: l, y :: m, out, pre, ra, rb, hp => by
  have ra2 := List.pairwise_cons.1 ra
  have rb2 := List.pairwise_cons.1 rb
  rw [mer]
  by_cases h1 : lt (key x) (key y) = true
  ·
   rw [if_pos h1, apP_gone (c := goneC x) (x := x) (l := l) rfl (fun p hq => (hp p hq).1 x List.mem_cons_self) rfl rfl]
   have := mer_app l (y :: m) (out ++ pre) [] ra2.2 rb (fun p hq => by simp at hq)
   rw [List.nil_append] at this
   rw [this]
   simp
  ·
   rw [if_neg h1]
   by_cases h2 : lt (key y) (key x) = true
   ·
    rw [if_pos h2, apP_new (c := newC y) rfl (fun p hq => (hp p hq).2 y List.mem_cons_self) (fun z l e => by injection e with e1 _; rw [← e1]; exact h2)]
    have := mer_app (x :: l) m (out ++ pre ++ [y]) [] ra rb2.2 (fun p hq => by simp at hq)
    rw [List.nil_append] at this
    rw [show (newC y).f0 = y from rfl, this]
    simp
   ·
    rw [if_neg h2]
    have hk : key x = key y := by
     rcases lt_total (key x) (key y) with h | h | h
     ·
      exact absurd h h1
     ·
      exact h
     ·
      exact absurd h h2
    by_cases h3 : x = y
    ·
     rw [if_pos h3]
     have := mer_app l m out (pre ++ [x]) ra2.2 rb2.2 (fun p hq => by
      rcases List.mem_append.1 hq with hq | hq
      ·
       exact ⟨fun z hz => (hp p hq).1 z (List.mem_cons_of_mem _ hz), fun z hz => (hp p hq).2 z (List.mem_cons_of_mem _ hz)⟩
      ·
       rw [List.mem_singleton.1 hq]
       exact ⟨ra2.1, fun z hz => by rw [hk]; exact rb2.1 z hz⟩)
     rw [List.append_assoc] at this
     rw [show pre ++ x :: l = pre ++ ([x] ++ l) from rfl, this, h3]
     simp
    ·
     rw [if_neg h3, apP_same (c := newC y) (x := x) (l := l) rfl (fun p hq => (hp p hq).2 y List.mem_cons_self) rfl hk]
     have := mer_app l m (out ++ pre ++ [y]) [] ra2.2 rb2.2 (fun p hq => by simp at hq)
     rw [List.nil_append] at this
     rw [show (newC y).f0 = y from rfl, this]
     simp
termination_by a b => a.length + b.length
theorem apply_of {a b : List Rw} (ha : rightS a = true) (hb : rightS b = true) : applyS a (mer a b) = (b, 0) := by
 unfold applyS
 rw [if_pos ha, if_pos (mer_rightC ha hb)]
 have := mer_app a b [] [] (right_rise ha) (right_rise hb) (fun p hq => by simp at hq)
 rw [List.nil_append] at this
 rw [this]
 rfl
theorem mer_sh {a b : List Rw} (ra : Rise a) (rb : Rise b) (sa : ShR a) (sb : ShR b) : ShR ((mer a b).map (·.f0)) := fun x hx => by
 obtain ⟨c, hc, rfl⟩ := List.mem_map.1 hx
 rcases (mer_mem c a b ra rb).mp hc with ⟨x, hx, e, _⟩ | ⟨y, hy, e, _⟩
 ·
  rw [e]; exact sa x hx
 ·
  rw [e]; exact sb y hy
end Go.Proofs.YtgcbejidponoaaaGreatDoor.Pure
end
section
namespace Go.Proofs.YtgcbejidponoaaaGreatDoor.Pure
open Go.RowKit Go.Proofs.YtgcbejidponoaaaGreatDoor.X Go.Proofs.YtgcbejidponoaaaGreatDoorW.PrintWords Go.Proofs.YtgcbejidponoaaaGreatDoorW.PrintLast Go.Proofs.YtgcbejidponoaaaGreatDoorW.PrintMore Go.Proofs.YtgcbejidponoaaaGreatDoor.Aid Go.Proofs.YtgcbejidponoaaaGreatDoor.Bytes
theorem sameR_l0 {a b : List Rw} (hn : a.length < 100000) (he : a.length = b.length) (d : Nat) : ∀ (i k : Nat), i + d = a.length → d < k → r08_Same.l0 k a b (i : Int) = some (decide (a.drop i = b.drop i)) := by
 induction d with
 | zero =>
  intro i k hi hk
  obtain ⟨k, rfl⟩ := succ_of hk
  simp only [r08_Same.l0]
  rw [if_neg (by omega), List.drop_of_length_le (by omega), List.drop_of_length_le (by omega)]
  simp
 | succ d ih =>
  intro i k hi hk
  obtain ⟨k, rfl⟩ := succ_of hk
  have hlt : i < a.length := by omega
  have hlb : i < b.length := by omega
  have i1 := ih (i + 1) k (by omega) (by omega)
  simp only [r08_Same.l0]
  rw [drop_at hlt, drop_at hlb, if_pos (by omega), if_pos (by omega), if_pos (by omega), rdR hlt, rdR hlb]
  by_cases h : a[i] = b[i]
  ·
   rw [if_neg (mt (rw_ne a[i] b[i]).mp (fun hne => hne h)), w64s (by omega), i1]
   exact congrArg some (decide_eq_decide.mpr ⟨fun e => by rw [e, h], fun e => (List.cons.inj e).2⟩)
  ·
   rw [if_pos ((rw_ne a[i] b[i]).mpr h)]
   exact congrArg some (decide_eq_false (fun e => h (List.cons.inj e).1)).symm
theorem sameR_eq {a b : List Rw} (hn : a.length < 100000) {k : Nat} (hk : a.length < k) : r08_Same.f k a b = some (decide (a = b)) := by
 unfold r08_Same.f
 by_cases h : a.length = b.length
 ·
  rw [if_pos (by omega)]
  exact sameR_l0 hn h a.length 0 k (by omega) hk
 ·
  rw [if_neg (by omega)]
  exact congrArg some (decide_eq_false (fun e => h (by rw [e]))).symm
theorem rgreat_l0 {l : List Rw} (hl : l.length ≤ 100000) (d : Nat) : ∀ (i k : Nat), i + d = l.length → d < k → ∃ r, r08_Great.l0 k l (i : Int) = some r ∧ (r = false → ∀ x ∈ l.drop i, x.f1.size ≤ 300) := by
 induction d with
 | zero =>
  intro i k hi hk
  obtain ⟨k, rfl⟩ := succ_of hk
  simp only [r08_Great.l0]
  rw [if_neg (by omega), List.drop_of_length_le (by omega)]
  exact ⟨_, rfl, fun _ x hx => absurd hx (by simp)⟩
 | succ d ih =>
  intro i k hi hk
  obtain ⟨k, rfl⟩ := succ_of hk
  have hlt : i < l.length := by omega
  simp only [r08_Great.l0]
  rw [if_pos (by omega), if_pos (by omega), w64s (by omega), rdR hlt]
  obtain ⟨r, hr, h2⟩ := ih (i + 1) k (by omega) (by omega)
  rw [hr]
  by_cases h : (l[i].f1.size : Int) > 300
  ·
   rw [if_pos h]
   exact ⟨_, rfl, fun e => by cases e⟩
  ·
   rw [if_neg h]
   refine ⟨r, rfl, fun e x hx => ?_⟩
   rw [drop_at hlt, List.mem_cons] at hx
   rcases hx with rfl | hx
   ·
    omega
   ·
    exact h2 e x hx
def Fine (l : List Rw) : Prop := l.length ≤ 100 ∧ ∀ x ∈ l, GRow x ∧ x.f1.size ≤ 300
theorem rgreat_eq (l : List Rw) (hq : ∀ x ∈ l, Q45 x) {k : Nat} (hk : 110 ≤ k) : r08_Great.f k l = some true ∨ (r08_Great.f k l = some false ∧ Fine l) := by
 unfold r08_Great.f
 by_cases h : (l.length : Int) > 100
 ·
  rw [if_pos h]
  exact .inl rfl
 ·
  rw [if_neg h]
  obtain ⟨r, h1, h2⟩ := rgreat_l0 (l := l) (by omega) l.length 0 k (by omega) (by omega)
  cases r
  ·
   refine .inr ⟨h1, by omega, fun x hx => ?_⟩
   have h3 := h2 rfl x hx
   have h4 := hq x hx
   exact ⟨⟨wf64 h4.1, by omega, wf64 h4.2.2.1⟩, h3⟩
  ·
   exact .inl h1
theorem fine_sh {l : List Rw} (h : Fine l) : ShR l := fun x hx => by have := (h.2 x hx).2; omega
theorem alive_eq (k : Nat) (hk : 100 ≤ k) : w09_alive.f k = some true :=
 at_rounds (g := fun k => w09_alive.f k) w09_alive.mono hk (by decide +kernel)
end Go.Proofs.YtgcbejidponoaaaGreatDoor.Pure
end
section
namespace Go.Proofs.YtgcbejidponoaaaGreatDoor.Pure
open Go.RowKit Go.Proofs.YtgcbejidponoaaaGreatDoor.X Go.Proofs.YtgcbejidponoaaaGreatDoorW.PrintWords Go.Proofs.YtgcbejidponoaaaGreatDoorW.PrintLast Go.Proofs.YtgcbejidponoaaaGreatDoorW.PrintMore Go.Proofs.YtgcbejidponoaaaGreatDoor.Aid Go.Proofs.YtgcbejidponoaaaGreatDoor.Bytes
theorem of_cases (a b : List Rw) : (rightS a = true ∧ rightS b = true ∧ ofS a b = (mer a b, 0)) ∨ ofS a b = ([], 9) := by
 unfold ofS
 by_cases h : rightS a = true
 ·
  rw [if_pos h]
  by_cases h2 : rightS b = true
  ·
   rw [if_pos h2]
   exact .inl ⟨h, h2, rfl⟩
  ·
   rw [if_neg h2]
   exact .inr rfl
 ·
  rw [if_neg h]
  exact .inr rfl
theorem DiffOn : w09_DiffOn.Pure := by
 intro a b c qa _ qb _ qc _
 obtain ⟨K, hK⟩ : ∃ K : Nat, 50000 ≤ K := ⟨_, Nat.le_refl _⟩
 refine ⟨K + 1 + 1, ?_⟩
 unfold w09_DiffOn.f
 rw [alive_eq _ (by omega), Option.bind_some, if_pos rfl]
 rcases rgreat_eq a qa.2 (k := K + 1 + 1) (by omega) with h | ⟨h, fa⟩
 ·
  rw [h, Option.bind_some, if_pos rfl, w09_DiffOn.j0, if_pos rfl]
 ·
  rw [h, Option.bind_some, if_neg (by decide)]
  rcases rgreat_eq b qb.2 (k := K + 1 + 1) (by omega) with h2 | ⟨h2, fb⟩
  ·
   rw [h2, Option.bind_some, if_pos rfl, w09_DiffOn.j0, if_pos rfl]
  ·
   rw [h2, Option.bind_some, if_neg (by decide)]
   rcases rgreat_eq c qc.2 (k := K + 1 + 1) (by omega) with h3 | ⟨h3, fc⟩
   ·
    rw [h3, Option.bind_some, w09_DiffOn.j0, if_pos rfl]
   ·
    have la := fa.1
    have lb := fb.1
    have lc := fc.1
    rw [h3, Option.bind_some, w09_DiffOn.j0, if_neg (by decide), of_eq (fine_sh fa) (fine_sh fb) (by omega) (by omega) (by omega), Option.bind_some, of_eq (fine_sh fb) (fine_sh fc) (by omega) (by omega) (by omega), Option.bind_some]
    rcases of_cases a b with ⟨ra, rb, e1⟩ | e1
    ·
     rcases of_cases b c with ⟨_, rc, e2⟩ | e2
     ·
      have m1 := mer_len a b
      have m2 := mer_len b c
      rw [e1, e2, if_pos rfl, w09_DiffOn.j1, if_neg (by simp), apply_eq (fine_sh fa) (by omega) (mer_sh (right_rise ra) (right_rise rb) (fine_sh fa) (fine_sh fb)) (by omega) (by omega), Option.bind_some, apply_of ra rb, apply_eq (fine_sh fb) (by omega) (mer_sh (right_rise rb) (right_rise rc) (fine_sh fb) (fine_sh fc)) (by omega) (by omega), Option.bind_some, apply_of rb rc, if_pos rfl, if_pos rfl]
      dsimp only
      rw [sameR_eq (by omega) (by omega), Option.bind_some]
      simp
     ·
      rw [e1, e2, if_pos rfl, w09_DiffOn.j1, if_pos (by decide), if_pos rfl, if_neg (by decide)]
      rfl
    ·
     rw [e1, if_neg (by decide), w09_DiffOn.j1, if_pos rfl, if_neg (by decide), if_pos (by decide)]
end Go.Proofs.YtgcbejidponoaaaGreatDoor.Pure
end
