/- Plain facts on what the printed functions compute, joined; each says its conditions. -/
import Derived.Test.YtgcbejidponoaaaGreatDoorM15
import Derived.Test.YtgcbejidponoaaaGreatDoorM9
import Derived.Test.YtgcbejidponoaaaGreatDoorM12
import Derived.Test.YtgcbejidponoaaaGreatDoorM8
import Derived.Test.YtgcbejidponoaaaGreatDoorM10
import Derived.Test.YtgcbejidponoaaaGreatDoorM1
import Derived.Test.YtgcbejidponoaaaGreatDoorM13
import Derived.Test.YtgcbejidponoaaaGreatDoorM14
section
namespace Go.Proofs.YtgcbejidponoaaaGreatDoor.Pure
open Go.RowKit Go.Proofs.YtgcbejidponoaaaGreatDoor.X Go.Proofs.YtgcbejidponoaaaGreatDoorW.PrintWords Go.Proofs.YtgcbejidponoaaaGreatDoorW.PrintLast Go.Proofs.YtgcbejidponoaaaGreatDoorW.PrintMore Go.Proofs.YtgcbejidponoaaaGreatDoor.Aid Go.Proofs.YtgcbejidponoaaaGreatDoor.Bytes
abbrev Ch := S48
def goneC (x : Rw) : Ch := ⟨⟨x.f0, x.f1, ⟨0, false⟩⟩, true⟩
def newC (x : Rw) : Ch := ⟨x, false⟩
def ck (c : Ch) : Key := key c.f0
theorem ck_new (x : Rw) : ck (newC x) = key x := rfl
noncomputable instance : DecidableEq Rw := Classical.typeDecidableEq _
noncomputable def mer : List Rw → List Rw → List Ch
 | [], [] => []
 | a :: l, [] => goneC a :: mer l []
 | [], b :: m => newC b :: mer [] m
 | a :: l, b :: m => if lt (key a) (key b) = true then goneC a :: mer l (b :: m) else if lt (key b) (key a) = true then newC b :: mer (a :: l) m else if a = b then mer l m else newC b :: mer l m
termination_by a b => a.length + b.length
def RiseC (l : List Ch) : Prop := l.Pairwise fun a b => lt (ck a) (ck b) = true
def Is (a b : List Rw) (c : Ch) : Prop := (∃ x ∈ a, c = goneC x ∧ ∀ y ∈ b, key y ≠ key x) ∨ (∃ y ∈ b, c = newC y ∧ y ∉ a)
theorem mer_mem (c : Ch) : ∀ (a b : List Rw), Rise a → Rise b → (c ∈ mer a b ↔ Is a b c)
 | [], [], _, _ => by
  rw [mer]
  constructor
  ·
   intro h; cases h
  ·
   rintro (⟨x, h, _⟩ | ⟨x, h, _⟩) <;> cases h
 | a :: l, [], ha, hb => by
  rw [mer, List.mem_cons, mer_mem c l [] (List.pairwise_cons.mp ha).2 hb]
  constructor
  ·
   rintro (h | ⟨x, hx, e, h⟩ | ⟨x, hx, _⟩)
   ·
    exact .inl ⟨a, List.mem_cons_self, h, fun y hy => by cases hy⟩
   ·
    exact .inl ⟨x, List.mem_cons_of_mem _ hx, e, h⟩
   ·
    cases hx
  ·
   rintro (⟨x, hx, e, h⟩ | ⟨x, hx, _⟩)
   ·
    rcases List.mem_cons.mp hx with rfl | hx
    ·
     exact .inl e
    ·
     exact .inr (.inl ⟨x, hx, e, h⟩)
   ·
    cases hx
 | [], b :: m, ha, hb => by
  rw [mer, List.mem_cons, mer_mem c [] m ha (List.pairwise_cons.mp hb).2]
  constructor
  ·
   rintro (h | ⟨x, hx, _⟩ | ⟨x, hx, e, h⟩)
   ·
    exact .inr ⟨b, List.mem_cons_self, h, fun h => by cases h⟩
   ·
    cases hx
   ·
    exact .inr ⟨x, List.mem_cons_of_mem _ hx, e, h⟩
  ·
   rintro (⟨x, hx, _⟩ | ⟨x, hx, e, h⟩)
   ·
    cases hx
   ·
    rcases List.mem_cons.mp hx with rfl | hx
    ·
     exact .inl e
    ·
     exact .inr (.inr ⟨x, hx, e, h⟩)
 | a :: l, b :: m, ha, hb => by
  have h1 := List.pairwise_cons.mp ha
  have h2 := List.pairwise_cons.mp hb
  have la : ∀ x ∈ l, key x ≠ key a := fun x hx e => by
   have := h1.1 x hx
   rw [e, lt_irrefl] at this
   cases this
  have lb : ∀ x ∈ m, key x ≠ key b := fun x hx e => by
   have := h2.1 x hx
   rw [e, lt_irrefl] at this
   cases this
  rw [mer]
  by_cases c1 : lt (key a) (key b) = true
  ·
   have far : ∀ y ∈ b :: m, key y ≠ key a := fun y hy => by
    rcases List.mem_cons.mp hy with rfl | hy
    ·
     exact (lt_ne c1).symm
    ·
     exact (lt_ne (lt_trans c1 (h2.1 y hy))).symm
   rw [if_pos c1, List.mem_cons, mer_mem c l (b :: m) h1.2 hb]
   constructor
   ·
    rintro (h | ⟨x, hx, e, h⟩ | ⟨y, hy, e, h⟩)
    ·
     exact .inl ⟨a, List.mem_cons_self, h, far⟩
    ·
     exact .inl ⟨x, List.mem_cons_of_mem _ hx, e, h⟩
    ·
     refine .inr ⟨y, hy, e, fun hm => ?_⟩
     rcases List.mem_cons.mp hm with rfl | hm
     ·
      exact far y hy rfl
     ·
      exact h hm
   ·
    rintro (⟨x, hx, e, h⟩ | ⟨y, hy, e, h⟩)
    ·
     rcases List.mem_cons.mp hx with rfl | hx
     ·
      exact .inl e
     ·
      exact .inr (.inl ⟨x, hx, e, h⟩)
    ·
     exact .inr (.inr ⟨y, hy, e, fun hm => h (List.mem_cons_of_mem _ hm)⟩)
  ·
   rw [if_neg c1]
   by_cases c2 : lt (key b) (key a) = true
   ·
    have far : ∀ y ∈ a :: l, key y ≠ key b := fun y hy => by
     rcases List.mem_cons.mp hy with rfl | hy
     ·
      exact (lt_ne c2).symm
     ·
      exact (lt_ne (lt_trans c2 (h1.1 y hy))).symm
    rw [if_pos c2, List.mem_cons, mer_mem c (a :: l) m ha h2.2]
    constructor
    ·
     rintro (h | ⟨x, hx, e, h⟩ | ⟨y, hy, e, h⟩)
     ·
      exact .inr ⟨b, List.mem_cons_self, h, fun hm => far b hm rfl⟩
     ·
      refine .inl ⟨x, hx, e, fun y hy => ?_⟩
      rcases List.mem_cons.mp hy with rfl | hy
      ·
       exact fun e2 => far x hx e2.symm
      ·
       exact h y hy
     ·
      exact .inr ⟨y, List.mem_cons_of_mem _ hy, e, h⟩
    ·
     rintro (⟨x, hx, e, h⟩ | ⟨y, hy, e, h⟩)
     ·
      exact .inr (.inl ⟨x, hx, e, fun y hy => h y (List.mem_cons_of_mem _ hy)⟩)
     ·
      rcases List.mem_cons.mp hy with rfl | hy
      ·
       exact .inl e
      ·
       exact .inr (.inr ⟨y, hy, e, h⟩)
   ·
    have ek : key a = key b := by
     rcases lt_total (key a) (key b) with h | h | h
     ·
      exact absurd h c1
     ·
      exact h
     ·
      exact absurd h c2
    have rec1 := mer_mem c l m h1.2 h2.2
    have back : Is l m c → Is (a :: l) (b :: m) c := by
     rintro (⟨x, hx, e, h⟩ | ⟨y, hy, e, h⟩)
     ·
      refine .inl ⟨x, List.mem_cons_of_mem _ hx, e, fun y hy => ?_⟩
      rcases List.mem_cons.mp hy with rfl | hy
      ·
       exact fun e2 => la x hx (by rw [← e2, ek])
      ·
       exact h y hy
     ·
      refine .inr ⟨y, List.mem_cons_of_mem _ hy, e, fun hm => ?_⟩
      rcases List.mem_cons.mp hm with rfl | hm
      ·
       exact lb y hy ek
      ·
       exact h hm
    have there : Is (a :: l) (b :: m) c → (c = newC b ∧ a ≠ b) ∨ Is l m c := by
     rintro (⟨x, hx, e, h⟩ | ⟨y, hy, e, h⟩)
     ·
      rcases List.mem_cons.mp hx with rfl | hx
      ·
       exact absurd ek.symm (h b List.mem_cons_self)
      ·
       exact .inr (.inl ⟨x, hx, e, fun y hy => h y (List.mem_cons_of_mem _ hy)⟩)
     ·
      rcases List.mem_cons.mp hy with rfl | hy
      ·
       exact .inl ⟨e, fun e2 => h (by rw [e2]; exact List.mem_cons_self)⟩
      ·
       exact .inr (.inr ⟨y, hy, e, fun hm => h (List.mem_cons_of_mem _ hm)⟩)
    rw [if_neg c2]
    by_cases c3 : a = b
    ·
     rw [if_pos c3, rec1]
     exact ⟨back, fun h => (there h).elim (fun h => absurd c3 h.2) id⟩
    ·
     rw [if_neg c3, List.mem_cons, rec1]
     constructor
     ·
      rintro (h | h)
      ·
       refine .inr ⟨b, List.mem_cons_self, h, fun hm => ?_⟩
       rcases List.mem_cons.mp hm with hm | hm
       ·
        exact c3 hm.symm
       ·
        exact la b hm ek.symm
      ·
       exact back h
     ·
      intro h
      rcases there h with h | h
      ·
       exact .inl h.1
      ·
       exact .inr h
termination_by a b => a.length + b.length
theorem is_key {a b : List Rw} {c : Ch} (h : Is a b c) : (∃ x ∈ a, ck c = key x) ∨ (∃ y ∈ b, ck c = key y) := by
 rcases h with ⟨x, hx, e, _⟩ | ⟨y, hy, e, _⟩
 ·
  exact .inl ⟨x, hx, by rw [e]; rfl⟩
 ·
  exact .inr ⟨y, hy, by rw [e]; rfl⟩
theorem mer_rise : ∀ (a b : List Rw), Rise a → Rise b → RiseC (mer a b)
 | [], [], _, _ => by rw [mer]; exact List.Pairwise.nil
 | a :: l, [], ha, hb => by
  have h1 := List.pairwise_cons.mp ha
  rw [mer]
  refine List.pairwise_cons.mpr ⟨fun c hc => ?_, mer_rise l [] h1.2 hb⟩
  rcases is_key ((mer_mem c l [] h1.2 hb).mp hc) with ⟨x, hx, e⟩ | ⟨x, hx, _⟩
  ·
   rw [e]; exact h1.1 x hx
  ·
   cases hx
 | [], b :: m, ha, hb => by
  have h2 := List.pairwise_cons.mp hb
  rw [mer]
  refine List.pairwise_cons.mpr ⟨fun c hc => ?_, mer_rise [] m ha h2.2⟩
  rcases is_key ((mer_mem c [] m ha h2.2).mp hc) with ⟨x, hx, _⟩ | ⟨x, hx, e⟩
  ·
   cases hx
  ·
   rw [e]; exact h2.1 x hx
 | a :: l, b :: m, ha, hb => by
  have h1 := List.pairwise_cons.mp ha
  have h2 := List.pairwise_cons.mp hb
  rw [mer]
  by_cases c1 : lt (key a) (key b) = true
  ·
   rw [if_pos c1]
   refine List.pairwise_cons.mpr ⟨fun c hc => ?_, mer_rise l (b :: m) h1.2 hb⟩
   rcases is_key ((mer_mem c l (b :: m) h1.2 hb).mp hc) with ⟨x, hx, e⟩ | ⟨x, hx, e⟩
   ·
    rw [e]; exact h1.1 x hx
   ·
    rw [e]
    rcases List.mem_cons.mp hx with rfl | hx
    ·
     exact c1
    ·
     exact lt_trans c1 (h2.1 x hx)
  ·
   rw [if_neg c1]
   by_cases c2 : lt (key b) (key a) = true
   ·
    rw [if_pos c2]
    refine List.pairwise_cons.mpr ⟨fun c hc => ?_, mer_rise (a :: l) m ha h2.2⟩
    rcases is_key ((mer_mem c (a :: l) m ha h2.2).mp hc) with ⟨x, hx, e⟩ | ⟨x, hx, e⟩
    ·
     rw [e]
     rcases List.mem_cons.mp hx with rfl | hx
     ·
      exact c2
     ·
      exact lt_trans c2 (h1.1 x hx)
    ·
     rw [e]; exact h2.1 x hx
   ·
    have ek : key a = key b := by
     rcases lt_total (key a) (key b) with h | h | h
     ·
      exact absurd h c1
     ·
      exact h
     ·
      exact absurd h c2
    rw [if_neg c2]
    by_cases c3 : a = b
    ·
     rw [if_pos c3]
     exact mer_rise l m h1.2 h2.2
    ·
     rw [if_neg c3]
     refine List.pairwise_cons.mpr ⟨fun c hc => ?_, mer_rise l m h1.2 h2.2⟩
     rw [ck_new]
     rcases is_key ((mer_mem c l m h1.2 h2.2).mp hc) with ⟨x, hx, e⟩ | ⟨x, hx, e⟩
     ·
      rw [e, ← ek]; exact h1.1 x hx
     ·
      rw [e]; exact h2.1 x hx
termination_by a b => a.length + b.length
theorem mer_len : ∀ (a b : List Rw), (mer a b).length ≤ a.length + b.length
 | [], [] => by rw [mer]; exact Nat.zero_le _
 | a :: l, [] => by
  have := mer_len l []
  rw [mer, List.length_cons, List.length_cons]
  omega
 | [], b :: m => by
  have := mer_len [] m
  rw [mer, List.length_cons, List.length_cons]
  omega
 | a :: l, b :: m => by
  rw [mer]
  split
  ·
   have := mer_len l (b :: m)
   simp only [List.length_cons] at this ⊢
   omega
  ·
   split
   ·
    have := mer_len (a :: l) m
    simp only [List.length_cons] at this ⊢
    omega
   ·
    have := mer_len l m
    split
    ·
     simp only [List.length_cons]
     omega
    ·
     simp only [List.length_cons]
     omega
termination_by a b => a.length + b.length
end Go.Proofs.YtgcbejidponoaaaGreatDoor.Pure
end
section
namespace Go.Proofs.YtgcbejidponoaaaGreatDoor.Pure
open Go.RowKit Go.Proofs.YtgcbejidponoaaaGreatDoor.X Go.Proofs.YtgcbejidponoaaaGreatDoorW.PrintWords Go.Proofs.YtgcbejidponoaaaGreatDoorW.PrintLast Go.Proofs.YtgcbejidponoaaaGreatDoorW.PrintMore Go.Proofs.YtgcbejidponoaaaGreatDoor.Aid Go.Proofs.YtgcbejidponoaaaGreatDoor.Bytes
theorem rdC {l : List Ch} {i : Nat} (h : i < l.length) : rd_T48 l (i : Int) = l[i] := getD_at h _
theorem rw_ne (x y : Rw) : ((!(x.f0 == y.f0) || (!(x.f1.toList == y.f1.toList) || (!(x.f2.f0 == y.f2.f0) || !(x.f2.f1 == y.f2.f1)))) = true) ↔ x ≠ y := by
 have hb : x.f1.toList = y.f1.toList ↔ x.f1 = y.f1 := by
  constructor
  ·
   intro h
   rw [bl_toList, bl_toList] at h
   rw [← bl_eta x.f1, ← bl_eta y.f1, h]
  ·
   intro h
   rw [h]
 obtain ⟨a, b, c, d⟩ := x
 obtain ⟨a', b', c', d'⟩ := y
 simp only [Bool.or_eq_true, Bool.not_eq_true', beq_eq_false_iff_ne, ne_eq, S45.mk.injEq, S43.mk.injEq]
 simp only at hb
 rw [hb]
 by_cases h1 : a = a' <;> by_cases h2 : b = b' <;> by_cases h3 : c = c' <;> by_cases h4 : d = d' <;> simp [h1, h2, h3, h4]
end Go.Proofs.YtgcbejidponoaaaGreatDoor.Pure
end
section
namespace Go.Proofs.YtgcbejidponoaaaGreatDoor.Pure
open Go.RowKit Go.Proofs.YtgcbejidponoaaaGreatDoor.X Go.Proofs.YtgcbejidponoaaaGreatDoorW.PrintWords Go.Proofs.YtgcbejidponoaaaGreatDoorW.PrintLast Go.Proofs.YtgcbejidponoaaaGreatDoorW.PrintMore Go.Proofs.YtgcbejidponoaaaGreatDoor.Aid Go.Proofs.YtgcbejidponoaaaGreatDoor.Bytes
def bare (c : Ch) : Bool := !c.f1 || (c.f0.f2.f0 == 0 && !c.f0.f2.f1)
def rightC (l : List Ch) : Bool := l.all bare && rightS (l.map (·.f0))
theorem bare_neg (c : Ch) (h : c.f1 = true) : ((!(c.f0.f0 == c.f0.f0) || (!(c.f0.f1.toList == c.f0.f1.toList) || (!(c.f0.f2.f0 == 0) || !(c.f0.f2.f1 == false)))) || !(c.f1 == true)) = !bare c := by
 unfold bare
 rw [h]
 cases c.f0.f2.f1 <;> simp
theorem cright_l0 {l : List Ch} (hs : ShR (l.map (·.f0))) (hl : l.length ≤ 1000) (d : Nat) : ∀ (i k : Nat), i + d = l.length → d + 36000 < k → (∀ c ∈ l.take i, bare c = true) →
 diff_right.l0 k ((l.take i).map (·.f0)) l (l.length : Int) (i : Int) = some (rightC l) := by
 induction d with
 | zero =>
  intro i k hi hk hb
  obtain ⟨k, rfl⟩ := succ_of hk
  have ht : l.take i = l := List.take_of_length_le (by omega)
  rw [ht] at hb ⊢
  simp only [diff_right.l0]
  rw [if_neg (by omega), (right_eq hs (by rw [List.length_map]; exact hl) (by omega)).1, Option.bind_some]
  unfold rightC
  rw [List.all_eq_true.2 hb, Bool.true_and]
 | succ d ih =>
  intro i k hi hk hb
  obtain ⟨k, rfl⟩ := succ_of hk
  have hlt : i < l.length := by omega
  have h0 : (l.take (i + 1)).map (·.f0) = (l.take i).map (·.f0) ++ [l[i].f0] := by rw [take_at hlt, List.map_append]; rfl
  have hlen : ((l.take i).map (·.f0)).length < 3518437208883 := by rw [List.length_map, List.length_take]; omega
  simp only [diff_right.l0]
  rw [if_pos (by omega), if_pos (by omega), if_pos (by omega), rdC hlt, w64s (by omega)]
  have hnext : bare l[i] = true → diff_right.l0 k ((l.take i).map (·.f0) ++ [l[i].f0]) l (l.length : Int) ((i + 1 : Nat) : Int) = some (rightC l) := fun hbi => by
   rw [← h0]
   refine ih (i + 1) k (by omega) (by omega) fun c hc => ?_
   rw [take_at hlt, List.mem_append, List.mem_singleton] at hc
   rcases hc with hc | rfl
   ·
    exact hb c hc
   ·
    exact hbi
  by_cases hg : l[i].f1 = true
  ·
   rw [if_pos hg]
   simp only [diff_gone.f, Option.bind_some]
   rw [bare_neg _ hg]
   by_cases hbi : bare l[i] = true
   ·
    rw [hbi, if_neg (by decide), if_pos hlen]
    exact hnext hbi
   ·
    rw [Bool.eq_false_iff.2 hbi, if_pos (show (!false) = true from rfl)]
    unfold rightC
    have : l.all bare = false := by
     rw [Bool.eq_false_iff]
     intro h
     exact hbi (List.all_eq_true.1 h _ (List.getElem_mem hlt))
    rw [this, Bool.false_and]
  ·
   rw [if_neg hg, if_pos hlen]
   exact hnext (by unfold bare; rw [Bool.eq_false_iff.2 hg]; rfl)
theorem cright_eq {l : List Ch} (hs : ShR (l.map (·.f0))) (hl : l.length ≤ 1000) {k : Nat} (hk : 37100 ≤ k) : diff_right.f k l = some (rightC l) :=
 cright_l0 hs hl l.length 0 k (by omega) (by omega) (fun c hc => by simp at hc)
end Go.Proofs.YtgcbejidponoaaaGreatDoor.Pure
end
section
namespace Go.Proofs.YtgcbejidponoaaaGreatDoor.Pure
open Go.RowKit Go.Proofs.YtgcbejidponoaaaGreatDoor.X Go.Proofs.YtgcbejidponoaaaGreatDoorW.PrintWords Go.Proofs.YtgcbejidponoaaaGreatDoorW.PrintLast Go.Proofs.YtgcbejidponoaaaGreatDoorW.PrintMore Go.Proofs.YtgcbejidponoaaaGreatDoor.Aid Go.Proofs.YtgcbejidponoaaaGreatDoor.Bytes
def chT (c : Ch) : T := if c.f1 = true then [33] ++ (Lib.itoa c.f0.f0 ++ [124] ++ bl c.f0.f1) else rowT c.f0
def chsT (l : List Ch) : T := if l = [] then [45] else Lib.join (l.map chT) [59]
def GCh (l : List Ch) : Prop := l.length ≤ 1000 ∧ ∀ c ∈ l, GRow c.f0
theorem chT_len {c : Ch} (h : GRow c.f0) : (chT c).length ≤ 1300 := by
 have h1 := rowT_len h
 have h0 := itoa_len h.1
 have h2 := h.2.1
 have h3 := bl_len c.f0.f1
 unfold chT
 split
 ·
  simp only [List.length_append, List.length_singleton]
  omega
 ·
  exact h1
theorem chs_tot {l : List Ch} (h : GCh l) : tot (l.map chT) ≤ 1300000 := by
 have h1 := tot_le 1300 (l.map chT) (fun x hx => by
  obtain ⟨y, hy, rfl⟩ := List.mem_map.mp hx
  exact chT_len (h.2 y hy))
 rw [List.length_map] at h1
 have := h.1
 omega
theorem one_row {x : Rw} (h : GRow x) {k : Nat} (hk : 2200 ≤ k) : row_Text.f k [x] = some (mk (rowT x)) := by
 have g : GRows [x] := ⟨by simp, fun y hy => by rw [List.mem_singleton] at hy; rw [hy]; exact h⟩
 have e : rowsT [x] = rowT x := by
  unfold rowsT
  rw [if_neg (by simp), List.map_cons, List.map_nil, Lib.join_one]
 have a := rows_eq g (k := k) (by omega)
 rw [e] at a
 exact a
theorem num_grp {x : Rw} (h : GRow x) : word_Join.f (⟨#[124]⟩ : ByteArray) [mk (Lib.itoa x.f0), x.f1] = some (mk (Lib.itoa x.f0 ++ [124] ++ bl x.f1)) := by
 have h0 := itoa_len h.1
 have h1 := h.2.1
 have h2 := bl_len x.f1
 have := join_eq (L := [Lib.itoa x.f0, bl x.f1]) (s := [124]) (by simp) (by rw [join2]; simp only [List.length_append, List.length_singleton]; omega)
 rw [join2, List.map_cons, List.map_cons, bl_eta] at this
 exact this
theorem ctext_l0 {l : List Ch} (h : GCh l) (d : Nat) : ∀ (i k : Nat), i + d = l.length → d + 2300 < k →
 diff_Text.l0 k ((l.take i).map fun x => mk (chT x)) l (l.length : Int) (i : Int) = some (mk (Lib.join (l.map chT) [59])) := by
 have hl := h.1
 induction d with
 | zero =>
  intro i k hi hk
  obtain ⟨k, rfl⟩ := succ_of (show 0 < k by omega)
  have hj := join_len [59] (l.map chT)
  have ht := chs_tot h
  rw [List.length_map, List.length_singleton] at hj
  have e := join_eq (L := l.map chT) (s := [59]) (by rw [List.length_map]; omega) (by omega)
  rw [List.map_map] at e
  simp only [diff_Text.l0]
  rw [if_neg (by omega), List.take_of_length_le (by omega)]
  have e2 : word_Join.f (⟨#[59]⟩ : ByteArray) (l.map fun x => mk (chT x)) = some (mk (Lib.join (l.map chT) [59])) := e
  rw [e2, Option.bind_some]
 | succ d ih =>
  intro i k hi hk
  obtain ⟨k, rfl⟩ := succ_of (show 0 < k by omega)
  have hlt : i < l.length := by omega
  have hx := h.2 _ (List.getElem_mem hlt)
  have e2 : ((l.take i).map fun x => mk (chT x)) ++ [mk (chT l[i])] = (l.take (i + 1)).map fun x => mk (chT x) := by rw [take_at hlt, List.map_append]; rfl
  have hlen : ((l.take i).map fun x => mk (chT x)).length < 8796093022208 := by rw [List.length_map, List.length_take]; omega
  have hih := ih (i + 1) k (by omega) (by omega)
  have c1 : (i : Int) < (l.length : Int) := by omega
  have c2 : 0 ≤ (i : Int) := by omega
  simp only [diff_Text.l0]
  rw [if_pos c1, if_pos c2, if_pos c1, rdC hlt]
  by_cases hc : l[i].f1 = true
  ·
   have e : chT l[i] = [33] ++ (Lib.itoa l[i].f0.f0 ++ [124] ++ bl l[i].f0.f1) := by unfold chT; rw [if_pos hc]
   have em : (⟨#[33]⟩ : ByteArray) ++ mk (Lib.itoa l[i].f0.f0 ++ [124] ++ bl l[i].f0.f1) = mk (chT l[i]) := by
    rw [e]
    exact mk_append [33] _
   have hcl := chT_len hx
   rw [e, List.length_append] at hcl
   rw [if_pos hc, format_eq hx.1, Option.bind_some, num_grp hx, Option.bind_some, em, mk_size, if_pos (by omega), if_pos hlen, e2, w64s (by omega), hih]
  ·
   have e : chT l[i] = rowT l[i].f0 := by unfold chT; rw [if_neg hc]
   have e1 := one_row hx (k := k) (by omega)
   have e1' : row_Text.f k [(⟨l[i].f0.f0, l[i].f0.f1, (⟨l[i].f0.f2.f0, l[i].f0.f2.f1⟩ : S43)⟩ : Rw)] = some (mk (chT l[i])) := by rw [e]; exact e1
   rw [if_neg hc, e1', Option.bind_some, if_pos hlen, e2, w64s (by omega), hih]
theorem ctext_eq {l : List Ch} (h : GCh l) {k : Nat} (hk : 3400 ≤ k) : diff_Text.f k l = some (mk (chsT l)) := by
 have hl := h.1
 unfold diff_Text.f chsT
 by_cases c : l = []
 ·
  subst c
  rfl
 ·
  have : l.length ≠ 0 := fun e => c (List.eq_nil_of_length_eq_zero e)
  rw [if_neg (by omega), if_neg c]
  exact ctext_l0 h l.length 0 k (by omega) (by omega)
end Go.Proofs.YtgcbejidponoaaaGreatDoor.Pure
end
section
namespace Go.Proofs.YtgcbejidponoaaaGreatDoor.Pure
open Go.RowKit Go.Proofs.YtgcbejidponoaaaGreatDoor.X Go.Proofs.YtgcbejidponoaaaGreatDoorW.PrintWords Go.Proofs.YtgcbejidponoaaaGreatDoorW.PrintLast Go.Proofs.YtgcbejidponoaaaGreatDoorW.PrintMore Go.Proofs.YtgcbejidponoaaaGreatDoor.Aid Go.Proofs.YtgcbejidponoaaaGreatDoor.Bytes Go.Proofs.YtgcbejidponoaaaGreatDoor.Decs
theorem cutp_eq (l : T) : strings_CutPrefix.f (mk l) (⟨#[33]⟩ : ByteArray) = some (mk (if l.head? = some 33 then l.drop 1 else l), decide (l.head? = some 33)) := by
 unfold strings_CutPrefix.f stringslite_CutPrefix.f stringslite_HasPrefix.f
 have e1 : ((⟨#[33]⟩ : ByteArray).size : Int) = 1 := rfl
 rw [e1]
 cases l with
 | nil => rfl
 | cons c r =>
  have es : ((mk (c :: r)).size : Int) = (r.length : Int) + 1 := by rw [mk_size, List.length_cons]; omega
  have ei : ((1 : Int)).toNat = 1 := rfl
  have et : (⟨#[33]⟩ : ByteArray).toList = [33] := mk_toList [33]
  rw [es, if_pos (by omega), if_pos (by omega), if_pos (by omega), ei, mk_upto, mk_toList, et, Option.bind_some]
  by_cases h : c = 33
  ·
   subst h
   rw [if_pos (by rfl), if_pos (by omega), if_pos (by omega), mk_from]
   rfl
  ·
   rw [if_neg (by simpa using h)]
   simp [h]
def zC : Ch := ⟨zR, false⟩
def leafC (t : T) : Ch × Int :=
 match spl 124 t with
 | [a, b] => if (readS a).2 = 0 then (if grp b = 0 then (⟨⟨(readS a).1, mk b, ⟨0, false⟩⟩, true⟩, 0) else (zC, grp b)) else (zC, (readS a).2)
 | _ => (zC, 2)
theorem leafC_2 {t a b : T} (h : spl 124 t = [a, b]) : leafC t = if (readS a).2 = 0 then (if grp b = 0 then (⟨⟨(readS a).1, mk b, ⟨0, false⟩⟩, true⟩, 0) else (zC, grp b)) else (zC, (readS a).2) := by
 unfold leafC
 rw [h]
theorem leafC_o {t : T} (h : (spl 124 t).length ≠ 2) : leafC t = (zC, 2) := by
 unfold leafC
 match hs : spl 124 t, h with
 | [], _ => rfl
 | [a], _ => rfl
 | [a, b], h => exact absurd rfl h
 | a :: b :: c :: L, _ => rfl
def TellsC (x : Option (Int × ByteArray × Int × Bool × Bool × Int)) (y : Ch × Int) : Prop := ∃ (w : Int) (g : ByteArray) (v : Int) (o d : Bool), x = some (w, g, v, o, d, y.2) ∧ (y.2 = 0 → (⟨⟨w, g, ⟨v, o⟩⟩, d⟩ : Ch) = y.1)
theorem two_ {L : List T} (h : L.length = 2) : ∃ a b, L = [a, b] := by
 match L, h with
 | [a, b], _ => exact ⟨a, b, rfl⟩
theorem q0 (a b : T) : rdOf ByteArray.empty ([a, b].map mk) 0 = mk a := rfl
theorem q1 (a b : T) : rdOf ByteArray.empty ([a, b].map mk) 1 = mk b := rfl
theorem leaf_tells {t : T} (ht : t.length ≤ 600) {k : Nat} (hk : 30000 ≤ k) : TellsC (diff_leaves.f k (mk t)) (leafC t) := by
 unfold diff_leaves.f
 rw [show (124 : Int) = ((124 : UInt8).toNat : Int) from rfl, split_eq 124 (by omega) k (by omega), Option.bind_some]
 by_cases h : (spl 124 t).length = 2
 ·
  obtain ⟨a, b, hs⟩ := two_ h
  have sa := spl_short 124 t a (by rw [hs]; simp)
  have sb := spl_short 124 t b (by rw [hs]; simp)
  obtain ⟨g1, g2⟩ := parseG_sh (s := b) (by omega)
  rw [hs, leafC_2 hs, if_pos (by simp), if_pos (by simp), if_pos (by simp), q0, q1, read_eq (by omega), Option.bind_some]
  by_cases h1 : (readS a).2 = 0
  ·
   rw [if_pos h1, if_pos h1, parse_eq (by omega) hk, Option.bind_some]
   unfold grp
   by_cases h2 : (parseG b).2 = 0
   ·
    rw [if_pos h2, if_pos h2, ttext_eq g1 (by omega) (by omega), Option.bind_some, mk_toList, mk_toList]
    by_cases h3 : tagsT (parseG b).1 = b
    ·
     rw [if_pos h3, if_pos h3, if_pos rfl, h2]
     exact ⟨_, _, _, _, _, rfl, fun _ => rfl⟩
    ·
     rw [if_neg h3, if_neg h3, if_neg (by decide)]
     exact ⟨_, _, _, _, _, rfl, fun e => absurd e (by decide)⟩
   ·
    rw [if_neg h2, if_neg h2, if_neg h2]
    exact ⟨_, _, _, _, _, rfl, fun e => absurd e h2⟩
  ·
   rw [if_neg h1, if_neg h1]
   exact ⟨_, _, _, _, _, rfl, fun e => absurd e h1⟩
 ·
  rw [leafC_o h, if_neg (by rw [List.length_map]; omega)]
  exact ⟨_, _, _, _, _, rfl, fun e => absurd e (by decide)⟩
def oneC (t : T) : Ch × Int := if t.head? = some 33 then leafC (t.drop 1) else if t = [45] then (zC, 2) else if (oneR t).2 = 0 then (newC (oneR t).1, 0) else (zC, (oneR t).2)
theorem onec_tells {t : T} (ht : t.length ≤ 600) (h59 : (59 : UInt8) ∉ t) {k : Nat} (hk : 42000 ≤ k) : TellsC (diff_one.f k (mk t)) (oneC t) := by
 unfold diff_one.f oneC
 rw [cutp_eq, Option.bind_some]
 by_cases h : t.head? = some 33
 ·
  rw [decide_eq_true h, if_pos rfl, if_pos h, if_pos h]
  obtain ⟨w, g, v, o, d, e, f⟩ := leaf_tells (t := t.drop 1) (by rw [List.length_drop]; omega) (k := k) (by omega)
  rw [e, Option.bind_some]
  exact ⟨w, g, v, o, d, rfl, f⟩
 ·
  rw [decide_eq_false h, if_neg Bool.false_ne_true, if_neg h, (rows_parse ht (by omega)).1, Option.bind_some]
  by_cases h2 : t = [45]
  ·
   rw [if_pos h2]
   unfold parseR
   rw [if_pos h2]
   exact ⟨_, _, _, _, _, rfl, fun e => absurd e (by decide)⟩
  ·
   rw [if_neg h2, parseR_one h2 h59]
   by_cases h3 : (oneR t).2 = 0
   ·
    rw [if_pos h3, if_pos h3]
    exact ⟨_, _, _, _, _, rfl, fun _ => rfl⟩
   ·
    rw [if_neg h3, if_neg h3, if_neg h3]
    exact ⟨_, _, _, _, _, rfl, fun e => absurd e h3⟩
theorem oneC_back {t : T} (h : (oneC t).2 = 0) (ht : t.length ≤ 600) : chT (oneC t).1 = t ∧ GRow (oneC t).1.f0 ∧ (oneC t).1.f0.f1.size ≤ 600 := by
 unfold oneC at h ⊢
 by_cases h0 : t.head? = some 33
 ·
  rw [if_pos h0] at h ⊢
  obtain ⟨r, rfl⟩ : ∃ r, t = 33 :: r := by
   cases t with
   | nil => cases h0
   | cons c r => injection h0 with h0; exact ⟨r, by rw [h0]⟩
  rw [show (33 :: r : T).drop 1 = r from rfl] at h ⊢
  rw [List.length_cons] at ht
  by_cases hl : (spl 124 r).length = 2
  ·
   obtain ⟨a, b, hs⟩ := two_ hl
   have sb := spl_short 124 r b (by rw [hs]; simp)
   rw [leafC_2 hs] at h ⊢
   by_cases h1 : (readS a).2 = 0
   ·
    rw [if_pos h1] at h ⊢
    by_cases h2 : grp b = 0
    ·
     rw [if_pos h2]
     obtain ⟨i1, e1⟩ := read_back h1
     have hj := join_spl 124 r
     rw [hs] at hj
     have hz : (mk b).size ≤ 600 := by rw [mk_size]; omega
     refine ⟨?_, ⟨i1, by show (mk b).size ≤ 1000; omega, (show I64 0 from ⟨by decide, by decide⟩)⟩, hz⟩
     unfold chT
     rw [if_pos rfl]
     show [33] ++ (Lib.itoa (readS a).1 ++ [124] ++ bl (mk b)) = 33 :: r
     rw [e1, show bl (mk b) = b from mk_data b]
     conv => rhs; rw [← hj]
     simp [Lib.join_cons, Lib.joinTail]
    ·
     rw [if_neg h2] at h
     exact absurd h h2
   ·
    rw [if_neg h1] at h
    exact absurd h h1
  ·
   rw [leafC_o hl] at h
   exact absurd h (by decide)
 ·
  rw [if_neg h0] at h ⊢
  by_cases h2 : t = [45]
  ·
   rw [if_pos h2] at h
   exact absurd h (by decide)
  ·
   rw [if_neg h2] at h ⊢
   by_cases h3 : (oneR t).2 = 0
   ·
    rw [if_pos h3]
    obtain ⟨e, g⟩ := oneR_back h3 ht
    exact ⟨e, g, oneR_sz h3 ht⟩
   ·
    rw [if_neg h3] at h
    exact absurd h h3
def chsP : List T → List Ch → List Ch × Int
 | [], acc => if rightC acc = true then (acc, 0) else ([], 9)
 | t :: L, acc => if (oneC t).2 = 0 then chsP L (acc ++ [(oneC t).1]) else ([], (oneC t).2)
theorem chs_l0 {L : List T} (hL : ∀ p ∈ L, p.length ≤ 600 ∧ (59 : UInt8) ∉ p) (hn : L.length ≤ 1000) (d : Nat) : ∀ (i k : Nat) (acc : List Ch), i + d = L.length → d + 43000 < k → acc.length ≤ i → (∀ c ∈ acc, c.f0.f1.size ≤ 600) →
 diff_Parse.l0 k acc (L.map mk) (L.length : Int) (i : Int) = some (chsP (L.drop i) acc) := by
 induction d with
 | zero =>
  intro i k acc hi hk ha hz
  obtain ⟨k, rfl⟩ := succ_of (show 0 < k by omega)
  have hs : ShR (acc.map (·.f0)) := fun x hx => by
   obtain ⟨c, hc, rfl⟩ := List.mem_map.1 hx
   have := hz c hc
   omega
  simp only [diff_Parse.l0]
  rw [if_neg (by omega), List.drop_of_length_le (by omega), cright_eq hs (by omega) (by omega), Option.bind_some, chsP]
  split
  ·
   rfl
  ·
   rfl
 | succ d ih =>
  intro i k acc hi hk ha hz
  obtain ⟨k, rfl⟩ := succ_of (show 0 < k by omega)
  have hlt : i < L.length := by omega
  obtain ⟨hp, hq⟩ := hL _ (List.getElem_mem hlt)
  obtain ⟨w, g, v, o, d2, e1, f1⟩ := onec_tells hp hq (k := k) (by omega)
  simp only [diff_Parse.l0]
  rw [List.length_map, if_pos (by omega), if_pos (by omega), if_pos (by omega), rdm hlt, e1, drop_at hlt, chsP, w64s (by omega)]
  simp only [Option.bind_some]
  by_cases h : (oneC L[i]).2 = 0
  ·
   rw [if_pos h, if_pos h, if_pos (by omega), f1 h]
   refine ih (i + 1) k _ (by omega) (by omega) (by rw [List.length_append, List.length_singleton]; omega) fun c hc => ?_
   rcases List.mem_append.1 hc with hc | hc
   ·
    exact hz c hc
   ·
    rw [List.mem_singleton.1 hc]
    exact (oneC_back h hp).2.2
  ·
   rw [if_neg h, if_neg h]
end Go.Proofs.YtgcbejidponoaaaGreatDoor.Pure
end
section
namespace Go.Proofs.YtgcbejidponoaaaGreatDoor.Pure
open Go.RowKit Go.Proofs.YtgcbejidponoaaaGreatDoor.X Go.Proofs.YtgcbejidponoaaaGreatDoorW.PrintWords Go.Proofs.YtgcbejidponoaaaGreatDoorW.PrintLast Go.Proofs.YtgcbejidponoaaaGreatDoorW.PrintMore Go.Proofs.YtgcbejidponoaaaGreatDoor.Aid Go.Proofs.YtgcbejidponoaaaGreatDoor.Bytes Go.Proofs.YtgcbejidponoaaaGreatDoor.Decs
theorem okV_no {c : UInt8} (h : okV c = true) : c ≠ 59 ∧ c ≠ 124 ∧ c ≠ 44 := by
 unfold okV okN okS okD at h
 simp only [Bool.or_eq_true, Bool.and_eq_true, decide_eq_true_eq] at h
 refine ⟨?_, ?_, ?_⟩
 ·
  rintro rfl
  have : (59 : UInt8).toNat = 59 := rfl
  omega
 ·
  rintro rfl
  have : (124 : UInt8).toNat = 124 := rfl
  omega
 ·
  rintro rfl
  have : (44 : UInt8).toNat = 44 := rfl
  omega
theorem val_chars {l : T} (h : isVal l = true) : ∀ c ∈ l, okV c = true := by
 unfold isVal at h
 simp only [Bool.and_eq_true] at h
 exact List.all_eq_true.1 h.2.2
theorem name_chars {l : T} (h : isName l = true) : ∀ c ∈ l, okV c = true := by
 unfold isName at h
 simp only [Bool.and_eq_true] at h
 intro c hc
 have := List.all_eq_true.1 h.1.2.2 c hc
 unfold okV
 rw [this]
 rfl
theorem mem_join {c : UInt8} {s : T} : ∀ {L : List T}, c ∈ Lib.join L s → (∃ x ∈ L, c ∈ x) ∨ c ∈ s
 | [], h => by simp [Lib.join] at h
 | x :: L, h => by
  rw [Lib.join_cons, List.mem_append] at h
  rcases h with h | h
  ·
   exact .inl ⟨x, List.mem_cons_self, h⟩
  ·
   unfold Lib.joinTail at h
   rw [List.mem_flatten] at h
   obtain ⟨y, hy, hc⟩ := h
   obtain ⟨z, hz, rfl⟩ := List.mem_map.1 hy
   rcases List.mem_append.1 hc with hc | hc
   ·
    exact .inr hc
   ·
    exact .inl ⟨z, List.mem_cons_of_mem _ hz, hc⟩
theorem canS_may {l : List Tg} (h : (canS l).2 = 0) : ∀ x ∈ (canS l).1, mayG x = true := by
 intro x hx
 have hm := canS_mem x hx
 unfold canS at h
 by_cases ha : l.all mayG = true
 ·
  exact List.all_eq_true.1 ha x hm
 ·
  rw [if_neg ha] at h
  exact absurd h (by decide)
theorem grp_no {b : T} (h : grp b = 0) : (59 : UInt8) ∉ b ∧ (124 : UInt8) ∉ b := by
 have hall : ∀ c ∈ b, okV c = true ∨ c = 61 ∨ c = 44 := by
  unfold grp at h
  by_cases h1 : (parseG b).2 = 0
  ·
   rw [if_pos h1] at h
   by_cases h2 : tagsT (parseG b).1 = b
   ·
    intro c hc
    rw [← h2] at hc
    unfold tagsT at hc
    have hmay : ∀ x ∈ (parseG b).1, mayG x = true := by
     unfold parseG at h1 ⊢
     by_cases h3 : b = []
     ·
      rw [if_pos h3]
      intro x hx
      cases hx
     ·
      rw [if_neg h3] at h1 ⊢
      by_cases h4 : (spl 44 b).all okG = true
      ·
       rw [if_pos h4] at h1 ⊢
       exact canS_may h1
      ·
       rw [if_neg h4] at h1
       exact absurd h1 (by decide)
    rcases mem_join hc with ⟨t, ht, hct⟩ | hct
    ·
     obtain ⟨x, hx, rfl⟩ := List.mem_map.1 ht
     have hm := hmay x hx
     unfold mayG nm at hm
     rw [Bool.and_eq_true] at hm
     unfold tagT at hct
     simp only [List.mem_append, List.mem_singleton] at hct
     rcases hct with (hct | hct) | hct
     ·
      exact .inl (name_chars hm.1 c hct)
     ·
      exact .inr (.inl hct)
     ·
      exact .inl (val_chars hm.2 c hct)
    ·
     exact .inr (.inr (List.mem_singleton.1 hct))
   ·
    rw [if_neg h2] at h
    exact absurd h (by decide)
  ·
   rw [if_neg h1] at h
   exact absurd h h1
 constructor
 ·
  intro hc
  rcases hall _ hc with h | h | h
  ·
   exact (okV_no h).1 rfl
  ·
   exact absurd h (by decide)
  ·
   exact absurd h (by decide)
 ·
  intro hc
  rcases hall _ hc with h | h | h
  ·
   exact (okV_no h).2.1 rfl
  ·
   exact absurd h (by decide)
  ·
   exact absurd h (by decide)
theorem itoa_chars {n : Int} : ∀ c ∈ Lib.itoa n, Dig c ∨ c = 45 := by
 intro c hc
 rw [itoa_sgn, List.mem_append] at hc
 rcases hc with hc | hc
 ·
  unfold sgn at hc
  split at hc
  ·
   exact .inr (List.mem_singleton.1 hc)
  ·
   cases hc
 ·
  exact .inl (dec_dig _ c hc)
theorem itoa_no (n : Int) : (59 : UInt8) ∉ Lib.itoa n ∧ (124 : UInt8) ∉ Lib.itoa n ∧ (33 : UInt8) ∉ Lib.itoa n := by
 refine ⟨fun h => ?_, fun h => ?_, fun h => ?_⟩
 all_goals
  rcases itoa_chars _ h with h | h
  ·
   revert h
   unfold Dig
   decide
  ·
   exact absurd h (by decide)
theorem txt_no (n : Int) (o : Bool) : (59 : UInt8) ∉ txt n o ∧ (124 : UInt8) ∉ txt n o := by
 obtain ⟨h1, h2, _⟩ := itoa_no n
 unfold txt
 cases o with
 | false => exact ⟨h1, h2⟩
 | true =>
  rw [if_pos rfl]
  constructor
  ·
   rw [List.mem_append]
   rintro (h | h)
   ·
    exact h1 h
   ·
    exact absurd (List.mem_singleton.1 h) (by decide)
  ·
   rw [List.mem_append]
   rintro (h | h)
   ·
    exact h2 h
   ·
    exact absurd (List.mem_singleton.1 h) (by decide)
def FitC (x : Ch) : Prop := GRow x.f0 ∧ x.f0.f1.size ≤ 300 ∧ bare x = true ∧ grp (bl x.f0.f1) = 0
theorem fit_no {x : Ch} (h : FitC x) : (59 : UInt8) ∉ chT x ∧ (124 : UInt8) ∈ chT x := by
 obtain ⟨a1, a2, _⟩ := itoa_no x.f0.f0
 obtain ⟨b1, b2⟩ := grp_no h.2.2.2
 obtain ⟨c1, c2⟩ := txt_no x.f0.f2.f0 x.f0.f2.f1
 unfold chT rowT
 split
 ·
  constructor
  ·
   simp only [List.mem_append, List.mem_singleton]
   rintro (h | (h | h) | h)
   ·
    exact absurd h (by decide)
   ·
    exact a1 h
   ·
    exact absurd h (by decide)
   ·
    exact b1 h
  ·
   simp
 ·
  constructor
  ·
   simp only [List.mem_append, List.mem_singleton]
   rintro ((((h | h) | h) | h) | h)
   ·
    exact a1 h
   ·
    exact absurd h (by decide)
   ·
    exact b1 h
   ·
    exact absurd h (by decide)
   ·
    exact c1 h
  ·
   simp
theorem fit_one {x : Ch} (h : FitC x) : oneC (chT x) = (x, 0) := by
 obtain ⟨hg, hz, hb, hgr⟩ := h
 obtain ⟨a1, a2, a3⟩ := itoa_no x.f0.f0
 obtain ⟨b1, b2⟩ := grp_no hgr
 obtain ⟨c1, c2⟩ := txt_no x.f0.f2.f0 x.f0.f2.f1
 have hm : mk (bl x.f0.f1) = x.f0.f1 := mk_eta _
 have hn45 := (fit_no ⟨hg, hz, hb, hgr⟩).2
 unfold oneC
 by_cases hx : x.f1 = true
 ·
  have e : chT x = 33 :: (Lib.itoa x.f0.f0 ++ 124 :: bl x.f0.f1) := by
   unfold chT
   rw [if_pos hx]
   simp
  have hs : spl 124 (Lib.itoa x.f0.f0 ++ 124 :: bl x.f0.f1) = [Lib.itoa x.f0.f0, bl x.f0.f1] := by rw [spl_app 124 _ _ a2, spl_no 124 _ b2]
  have hr := read_itoa hg.1
  rw [e, if_pos (show (33 :: (Lib.itoa x.f0.f0 ++ 124 :: bl x.f0.f1) : T).head? = some 33 from rfl), show (33 :: (Lib.itoa x.f0.f0 ++ 124 :: bl x.f0.f1) : T).drop 1 = Lib.itoa x.f0.f0 ++ 124 :: bl x.f0.f1 from rfl, leafC_2 hs]
  simp only [hr, hgr, hm, if_true]
  unfold bare at hb
  rw [hx] at hb
  simp only [Bool.not_true, Bool.false_or, Bool.and_eq_true, beq_iff_eq, Bool.not_eq_true'] at hb
  obtain ⟨⟨f0, f1, ⟨v, o⟩⟩, g⟩ := x
  simp only at hx hb
  obtain ⟨rfl, rfl⟩ := hb
  subst hx
  rfl
 ·
  have e : chT x = Lib.itoa x.f0.f0 ++ 124 :: (bl x.f0.f1 ++ 124 :: txt x.f0.f2.f0 x.f0.f2.f1) := by
   unfold chT rowT
   rw [if_neg hx]
   simp
  have hs : spl 124 (chT x) = [Lib.itoa x.f0.f0, bl x.f0.f1, txt x.f0.f2.f0 x.f0.f2.f1] := by rw [e, spl_app 124 _ _ a2, spl_app 124 _ _ b2, spl_no 124 _ c2]
  have hh : ¬ (chT x).head? = some 33 := by
   intro h
   rw [e] at h
   cases hi : Lib.itoa x.f0.f0 with
   | nil =>
    rw [hi] at h
    exact absurd h (by simp)
   | cons c r =>
    rw [hi] at h
    have : c = 33 := by simpa using h
    exact a3 (by rw [hi, this]; exact List.mem_cons_self)
  have h45 : ¬ chT x = [45] := by
   intro h
   rw [h] at hn45
   exact absurd hn45 (by decide)
  have hr := read_itoa hg.1
  have hp := parse_txt hg.2.2 x.f0.f2.f1
  rw [if_neg hh, if_neg h45, oneR_3 hs]
  simp only [hr, hp, hgr, hm, if_true]
  obtain ⟨⟨f0, f1, ⟨v, o⟩⟩, g⟩ := x
  have : g = false := Bool.eq_false_iff.2 hx
  subst this
  rfl
theorem chs_fit : ∀ (c acc : List Ch), (∀ x ∈ c, FitC x) → chsP (c.map chT) acc = if rightC (acc ++ c) = true then (acc ++ c, 0) else ([], 9)
 | [], acc, _ => by
  rw [List.map_nil, chsP, List.append_nil]
 | x :: c, acc, h => by
  rw [List.map_cons, chsP, fit_one (h x List.mem_cons_self), if_pos rfl, chs_fit c _ (fun y hy => h y (List.mem_cons_of_mem _ hy)), List.append_assoc]
  rfl
theorem split_big (c : UInt8) {l : T} (hl : l.length ≤ 90000) (k : Nat) (hk : 90010 < k) : word_Split.f k (mk l) (c.toNat : Int) = some ((spl c l).map mk) :=
 split_l0 c 90000 l k [] hl (by omega) (by simp)
theorem fit_len {x : Ch} (h : FitC x) : (chT x).length ≤ 600 := by
 have h1 := itoa_len h.1.1
 have h2 := txt_len h.1.2.2 x.f0.f2.f1
 have h3 := h.2.1
 have h4 : (bl x.f0.f1).length = x.f0.f1.size := by rw [← mk_size, show mk (bl x.f0.f1) = x.f0.f1 from mk_eta _]
 unfold chT rowT
 split
 ·
  simp only [List.length_append, List.length_singleton]
  omega
 ·
  simp only [List.length_append, List.length_singleton]
  omega
theorem flat_len {n : Nat} : ∀ {L : List T}, (∀ p ∈ L, p.length ≤ n) → (Lib.joinTail [59] L).length ≤ L.length * (n + 1)
 | [], _ => by simp [Lib.joinTail]
 | p :: L, h => by
  have h1 := flat_len (L := L) (fun q hq => h q (List.mem_cons_of_mem _ hq))
  have h2 := h p List.mem_cons_self
  unfold Lib.joinTail at h1 ⊢
  rw [List.map_cons, List.flatten_cons, List.length_append, List.length_append, List.length_singleton, List.length_cons, Nat.succ_mul]
  omega
theorem parse_fit {c : List Ch} (hc : ∀ x ∈ c, FitC x) (hl : c.length ≤ 100) (hr : rightC c = true) {k : Nat} (hk : 100000 ≤ k) : diff_Parse.f k (mk (chsT c)) = some (c, 0) := by
 unfold diff_Parse.f
 rw [mk_toList]
 by_cases h : c = []
 ·
  rw [h]
  rfl
 ·
  have e : chsT c = Lib.join (c.map chT) [59] := by unfold chsT; rw [if_neg h]
  have hs : spl 59 (chsT c) = c.map chT := by
   rw [e]
   refine spl_join 59 _ (by simpa using h) fun t ht => ?_
   obtain ⟨x, hx, rfl⟩ := List.mem_map.1 ht
   exact (fit_no (hc x hx)).1
  have hmem : ∀ p ∈ c.map chT, p.length ≤ 600 ∧ (59 : UInt8) ∉ p := fun t ht => by
   obtain ⟨x, hx, rfl⟩ := List.mem_map.1 ht
   exact ⟨fit_len (hc x hx), (fit_no (hc x hx)).1⟩
  have h45 : ¬ chsT c = [45] := by
   intro h2
   rw [h2] at hs
   cases c with
   | nil => exact h rfl
   | cons x c =>
    have hx : chT x = [45] := by
     have : spl 59 [45] = [[45]] := by decide
     rw [this, List.map_cons] at hs
     injection hs with hs _
     exact hs.symm
    have := (fit_no (hc x List.mem_cons_self)).2
    rw [hx] at this
    exact absurd this (by decide)
  have hlen : (chsT c).length ≤ 90000 := by
   rw [e]
   cases c with
   | nil => exact absurd rfl h
   | cons x c =>
    have h1 := fit_len (hc x List.mem_cons_self)
    have h2 := flat_len (n := 600) (L := c.map chT) (fun p hp => (hmem p (by rw [List.map_cons]; exact List.mem_cons_of_mem _ hp)).1)
    rw [List.map_cons, Lib.join_cons, List.length_append]
    rw [List.length_map] at h2
    rw [List.length_cons] at hl
    omega
  have h0 := chs_l0 (L := c.map chT) hmem (by rw [List.length_map]; omega) (c.map chT).length 0 k [] (by omega) (by rw [List.length_map]; omega) (by simp) (fun c hc => by simp at hc)
  rw [if_neg h45, show (59 : Int) = ((59 : UInt8).toNat : Int) from rfl, split_big 59 hlen k (by omega), Option.bind_some, hs, List.length_map]
  have h1 : chsP (c.map chT) [] = (c, 0) := by rw [chs_fit c [] hc, List.nil_append, if_pos hr]
  rw [show ((0 : Nat) : Int) = 0 from rfl, List.drop_zero, h1] at h0
  exact h0
end Go.Proofs.YtgcbejidponoaaaGreatDoor.Pure
end
section
namespace Go.Proofs.YtgcbejidponoaaaGreatDoor.Pure
open Go.RowKit Go.Proofs.YtgcbejidponoaaaGreatDoor.X Go.Proofs.YtgcbejidponoaaaGreatDoorW.PrintWords Go.Proofs.YtgcbejidponoaaaGreatDoorW.PrintLast Go.Proofs.YtgcbejidponoaaaGreatDoorW.PrintMore Go.Proofs.YtgcbejidponoaaaGreatDoor.Aid Go.Proofs.YtgcbejidponoaaaGreatDoor.Bytes
theorem of_l0 : ∀ (a b : List Rw) (k : Nat) (acc : List Ch), 4 * (a.length + b.length) + 20 ≤ k → acc.length + a.length + b.length ≤ 100000 → diff_Of.l0 k a b acc = some (acc ++ mer a b, 0)
 | [], [], k, acc, hk, _ => by
  obtain ⟨k, rfl⟩ : ∃ m, k = m + 1 + 1 := ⟨k - 2, by omega⟩
  rw [diff_Of.l0, if_neg (by simp), diff_Of.j2, mer, List.append_nil, if_neg (by simp)]
 | a :: l, [], k, acc, hk, hb => by
  obtain ⟨k, rfl⟩ : ∃ m, k = m + 1 + 1 + 1 := ⟨k - 3, by omega⟩
  rw [List.length_cons, List.length_nil] at hk hb
  have hp : ((a :: l).length : Int) > 0 := by rw [List.length_cons]; omega
  have h1 : 1 ≤ ((a :: l).length : Int) := hp
  have e : acc ++ [(⟨(⟨a.f0, a.f1, (⟨0, false⟩ : S43)⟩ : Rw), true⟩ : Ch)] = acc ++ [goneC a] := rfl
  have r0 : rd_T45 (a :: l) 0 = a := rfl
  have ih := of_l0 l [] k (acc ++ [goneC a]) (by rw [List.length_nil]; omega) (by rw [List.length_append, List.length_singleton, List.length_nil]; omega)
  rw [diff_Of.l0, if_pos hp, diff_Of.j2, if_pos rfl, if_pos (by simp), diff_Of.j3, if_pos rfl, if_pos hp, r0, diff_gone.f, Option.bind_some, if_pos (by omega), if_pos h1, e, mer]
  rw [List.append_assoc] at ih
  exact ih
 | [], b :: m, k, acc, hk, hb => by
  obtain ⟨k, rfl⟩ : ∃ m, k = m + 1 + 1 + 1 + 1 := ⟨k - 4, by omega⟩
  rw [List.length_cons, List.length_nil] at hk hb
  have hp : ((b :: m).length : Int) > 0 := by rw [List.length_cons]; omega
  have h1 : 1 ≤ ((b :: m).length : Int) := hp
  have hz : ¬ ((b :: m).length : Int) = 0 := by rw [List.length_cons]; omega
  have e : acc ++ [(⟨(⟨b.f0, b.f1, (⟨b.f2.f0, b.f2.f1⟩ : S43)⟩ : Rw), false⟩ : Ch)] = acc ++ [newC b] := rfl
  have r0 : rd_T45 (b :: m) 0 = b := rfl
  have ih := of_l0 [] m k (acc ++ [newC b]) (by rw [List.length_nil]; omega) (by rw [List.length_append, List.length_singleton, List.length_nil]; omega)
  rw [diff_Of.l0, if_neg (by simp), decide_eq_true hp, diff_Of.j2, if_pos rfl, if_neg hz, if_neg (by simp), diff_Of.j3, if_neg (by decide), if_pos (by simp), diff_Of.j4, if_pos rfl, if_pos hp, r0, if_pos (by omega), if_pos h1, e, mer]
  rw [List.append_assoc] at ih
  exact ih
 | a :: l, b :: m, k, acc, hk, hb => by
  obtain ⟨k, rfl⟩ : ∃ m, k = m + 1 + 1 + 1 + 1 := ⟨k - 4, by omega⟩
  simp only [List.length_cons] at hk hb
  have hp : ((a :: l).length : Int) > 0 := by rw [List.length_cons]; omega
  have h1 : 1 ≤ ((a :: l).length : Int) := hp
  have hz : ¬ ((a :: l).length : Int) = 0 := by rw [List.length_cons]; omega
  have hq : ((b :: m).length : Int) > 0 := by rw [List.length_cons]; omega
  have h2 : 1 ≤ ((b :: m).length : Int) := hq
  have hy : ¬ ((b :: m).length : Int) = 0 := by rw [List.length_cons]; omega
  have e : acc ++ [(⟨(⟨a.f0, a.f1, (⟨0, false⟩ : S43)⟩ : Rw), true⟩ : Ch)] = acc ++ [goneC a] := rfl
  have e2 : acc ++ [(⟨(⟨b.f0, b.f1, (⟨b.f2.f0, b.f2.f1⟩ : S43)⟩ : Rw), false⟩ : Ch)] = acc ++ [newC b] := rfl
  have ra : rd_T45 (a :: l) 0 = a := rfl
  have rb : rd_T45 (b :: m) 0 = b := rfl
  have da : (a :: l).drop 1 = l := rfl
  have db : (b :: m).drop 1 = m := rfl
  have ln : ∀ c : Ch, (acc ++ [c]).length = acc.length + 1 := fun c => by rw [List.length_append, List.length_singleton]
  rw [diff_Of.l0, if_pos hp, diff_Of.j2, if_pos rfl, if_neg hy, if_pos hp, if_pos hp, if_pos hq, ra, rb, before_eq a b (by omega), Option.bind_some, mer]
  by_cases c1 : lt (key a) (key b) = true
  ·
   have ih := of_l0 l (b :: m) (k + 1) (acc ++ [goneC a]) (by simp only [List.length_cons]; omega) (by rw [ln]; simp only [List.length_cons]; omega)
   rw [List.append_assoc] at ih
   rw [if_pos c1, c1, diff_Of.j3, if_pos rfl, if_pos hp, ra, diff_gone.f, Option.bind_some, if_pos (by omega), if_pos h1, e, da]
   exact ih
  ·
   rw [if_neg c1, Bool.eq_false_iff.mpr c1, diff_Of.j3, if_neg (by decide), if_neg hz, if_pos hq, if_pos hp, ra, rb, before_eq b a (by omega), Option.bind_some]
   by_cases c2 : lt (key b) (key a) = true
   ·
    have ih := of_l0 (a :: l) m k (acc ++ [newC b]) (by simp only [List.length_cons]; omega) (by rw [ln]; simp only [List.length_cons]; omega)
    rw [List.append_assoc] at ih
    rw [if_pos c2, c2, diff_Of.j4, if_pos rfl, if_pos hq, rb, if_pos (by omega), if_pos h2, e2, db]
    exact ih
   ·
    rw [if_neg c2, Bool.eq_false_iff.mpr c2, diff_Of.j4, if_neg (by decide), if_pos hp, if_pos hq, ra, rb]
    by_cases c3 : a = b
    ·
     have ih := of_l0 l m k acc (by omega) (by omega)
     rw [if_neg (mt (rw_ne a b).mp (fun h => h c3)), if_pos c3, if_pos h1, if_pos h2, da, db]
     exact ih
    ·
     have ih := of_l0 l m k (acc ++ [newC b]) (by omega) (by rw [ln]; omega)
     rw [List.append_assoc] at ih
     rw [if_pos ((rw_ne a b).mpr c3), if_neg c3, if_pos (by omega), if_pos h1, if_pos h2, da, db, e2]
     exact ih
termination_by a b => a.length + b.length
noncomputable def ofS (a b : List Rw) : List Ch × Int := if rightS a = true then (if rightS b = true then (mer a b, 0) else ([], 9)) else ([], 9)
theorem of_eq {a b : List Rw} (sa : ShR a) (sb : ShR b) (la : a.length ≤ 1000) (lb : b.length ≤ 1000) {k : Nat} (hk : 36000 ≤ k) : diff_Of.f k a b = some (ofS a b) := by
 obtain ⟨k, rfl⟩ : ∃ m, k = m + 1 := ⟨k - 1, by omega⟩
 unfold diff_Of.f ofS
 rw [(right_eq sa la (by omega)).1, Option.bind_some, (right_eq sb lb (by omega)).1, Option.bind_some]
 by_cases h : rightS a = true
 ·
  rw [if_pos h, if_pos h, diff_Of.j0]
  by_cases h2 : rightS b = true
  ·
   rw [if_pos h2, h2, if_neg (by decide), of_l0 a b k [] (by omega) (by simp; omega)]
   rfl
  ·
   rw [if_neg h2, Bool.eq_false_iff.mpr h2, if_pos (show (!false) = true from rfl)]
 ·
  rw [if_neg h, if_neg h, diff_Of.j0, if_pos rfl]
theorem right_rise {l : List Rw} (h : rightS l = true) : Rise l := (riseB_iff l).mp (Bool.and_eq_true_iff.mp h).1
end Go.Proofs.YtgcbejidponoaaaGreatDoor.Pure
end
section
namespace Go.Proofs.YtgcbejidponoaaaGreatDoor.Pure
open Go.RowKit Go.Proofs.YtgcbejidponoaaaGreatDoor.X Go.Proofs.YtgcbejidponoaaaGreatDoorW.PrintWords Go.Proofs.YtgcbejidponoaaaGreatDoorW.PrintLast Go.Proofs.YtgcbejidponoaaaGreatDoorW.PrintMore Go.Proofs.YtgcbejidponoaaaGreatDoor.Aid Go.Proofs.YtgcbejidponoaaaGreatDoor.Bytes
def ahead (c : Ch) (l : List Rw) : List Rw := l.takeWhile fun x => lt (key x) (ck c)
def behind (c : Ch) (l : List Rw) : List Rw := l.dropWhile fun x => lt (key x) (ck c)
theorem ahead_cons (c : Ch) (x : Rw) (l : List Rw) : ahead c (x :: l) = if lt (key x) (ck c) = true then x :: ahead c l else [] := by
 unfold ahead
 rw [List.takeWhile_cons]
theorem behind_cons (c : Ch) (x : Rw) (l : List Rw) : behind c (x :: l) = if lt (key x) (ck c) = true then behind c l else x :: l := by
 unfold behind
 rw [List.dropWhile_cons]
theorem ahead_behind (c : Ch) (l : List Rw) : ahead c l ++ behind c l = l := List.takeWhile_append_dropWhile
theorem len_ab (c : Ch) (l : List Rw) : (ahead c l).length + (behind c l).length = l.length := by
 conv => rhs; rw [← ahead_behind c l]
 rw [List.length_append]
def there (c : Ch) : List Rw → Bool
 | [] => false
 | y :: _ => !lt (ck c) (key y)
def past (c : Ch) (l : List Rw) : List Rw := if there c l = true then l.drop 1 else l
def apP : List Ch → List Rw → List Rw → List Rw × Int
 | [], out, rest => (out ++ rest, 0)
 | c :: cs, out, rest => if c.f1 = true then (if there c (behind c rest) = true then apP cs (out ++ ahead c rest) (past c (behind c rest)) else ([], 6)) else apP cs (out ++ ahead c rest ++ [c.f0]) (past c (behind c rest))
theorem past_len (c : Ch) (l : List Rw) : (past c l).length ≤ l.length := by
 unfold past
 split
 ·
  rw [List.length_drop]; omega
 ·
  exact Nat.le_refl _
theorem ap_l1 (c : Ch) (cs : List Ch) (n i : Int) (R : List Rw × Int) (K : Nat) (hK : 3 ≤ K) : ∀ (rest out : List Rw) (k : Nat), (ahead c rest).length + K < k → out.length + rest.length ≤ 100000 →
 (∀ k', K ≤ k' → diff_Apply.j3 k' (out ++ ahead c rest) (behind c rest) cs n i c.f0.f0 c.f0.f1 c.f0.f2.f0 c.f0.f2.f1 c.f1 = some R) →
 diff_Apply.l1 k out rest cs n i c.f0.f0 c.f0.f1 c.f0.f2.f0 c.f0.f2.f1 c.f1 = some R
 | [], out, k, hk, hb, h => by
  obtain ⟨k, rfl⟩ := succ_of hk
  simp only [diff_Apply.l1]
  rw [if_neg (by simp)]
  have h2 := h k (by omega)
  rw [show ahead c [] = [] from rfl, show behind c [] = [] from rfl, List.append_nil] at h2
  exact h2
 | x :: rest, out, k, hk, hb, h => by
  obtain ⟨k, rfl⟩ := succ_of hk
  rw [List.length_cons] at hb
  have hp : ((x :: rest).length : Int) > 0 := by rw [List.length_cons]; omega
  have h1 : 1 ≤ ((x :: rest).length : Int) := hp
  have r0 : rd_T45 (x :: rest) 0 = x := rfl
  simp only [diff_Apply.l1]
  rw [if_pos hp, if_pos hp, r0, before_eq x c.f0 (by omega), Option.bind_some]
  rw [ahead_cons, behind_cons] at h
  rw [ahead_cons] at hk
  by_cases hx : lt (key x) (ck c) = true
  ·
   have hx' : lt (key x) (key c.f0) = true := hx
   rw [if_pos hx, if_pos hx] at h
   rw [if_pos hx, List.length_cons] at hk
   rw [if_pos hx', if_pos (by omega), if_pos h1]
   refine ap_l1 c cs n i R K hK rest (out ++ [x]) k (by omega) (by rw [List.length_append, List.length_singleton]; omega) fun k' hk' => ?_
   rw [List.append_assoc]
   exact h k' hk'
  ·
   have hx' : ¬ lt (key x) (key c.f0) = true := hx
   rw [if_neg hx, if_neg hx, List.append_nil] at h
   rw [if_neg hx']
   exact h k (by omega)
theorem ap_j5 (c : Ch) (cs : List Ch) (n : Int) (i : Nat) (hi : i < 100000) (t : Bool) (o p : List Rw) (ho : o.length ≤ 100000) (R : List Rw × Int) (k : Nat)
 (h1 : c.f1 = true → t = true → diff_Apply.l0 k o p cs n ((i + 1 : Nat) : Int) = some R) (h2 : c.f1 = true → t = false → R = ([], 6)) (h3 : c.f1 = false → diff_Apply.l0 k (o ++ [c.f0]) p cs n ((i + 1 : Nat) : Int) = some R) :
 diff_Apply.j5 (k + 1) o p t cs n (i : Int) c.f0.f0 c.f0.f1 c.f0.f2.f0 c.f0.f2.f1 c.f1 = some R := by
 simp only [diff_Apply.j5]
 rw [w64s (by omega)]
 by_cases hc : c.f1 = true
 ·
  rw [if_pos hc]
  cases t with
  | true => rw [if_pos rfl]; exact h1 hc rfl
  | false => rw [if_neg (by decide), h2 hc rfl]
 ·
  rw [if_neg hc, if_pos (by omega)]
  exact h3 (Bool.eq_false_iff.2 hc)
theorem ap_l0 {cs : List Ch} (hn : cs.length ≤ 1000) (d : Nat) : ∀ (i k : Nat) (out rest : List Rw), i + d = cs.length → 8 * d + rest.length + 20 < k → out.length + rest.length + d ≤ 10000 →
 diff_Apply.l0 k out rest cs (cs.length : Int) (i : Int) = some (apP (cs.drop i) out rest) := by
 induction d with
 | zero =>
  intro i k out rest hi hk hb
  obtain ⟨k, rfl⟩ := succ_of hk
  simp only [diff_Apply.l0]
  rw [if_neg (by omega), if_pos (by omega), List.drop_of_length_le (by omega)]
  rfl
 | succ d ih =>
  intro i k out rest hi hk hb
  obtain ⟨k, rfl⟩ := succ_of hk
  have hlt : i < cs.length := by omega
  have hab := len_ab cs[i] rest
  have hpl := past_len cs[i] (behind cs[i] rest)
  simp only [diff_Apply.l0]
  rw [if_pos (by omega), if_pos (by omega), if_pos (by omega), rdC hlt, drop_at hlt]
  refine ap_l1 cs[i] cs _ _ _ (8 * d + (behind cs[i] rest).length + 26) (by omega) rest out k (by omega) (by omega) fun k' hk' => ?_
  obtain ⟨k', rfl⟩ : ∃ m, k' = m + 1 + 1 + 1 := ⟨k' - 3, by omega⟩
  have hfin : ∀ (p : List Rw), p = past cs[i] (behind cs[i] rest) → diff_Apply.j5 (k' + 1) (out ++ ahead cs[i] rest) p (there cs[i] (behind cs[i] rest)) cs (cs.length : Int) (i : Int) cs[i].f0.f0 cs[i].f0.f1 cs[i].f0.f2.f0 cs[i].f0.f2.f1 cs[i].f1 = some (apP (cs[i] :: cs.drop (i + 1)) out rest) := fun p hp => by
   subst hp
   refine ap_j5 cs[i] cs _ i (by omega) _ _ _ (by rw [List.length_append]; omega) _ k' (fun a b => ?_) (fun a b => ?_) (fun a => ?_)
   ·
    rw [apP, if_pos a, if_pos b]
    exact ih (i + 1) k' _ _ (by omega) (by omega) (by rw [List.length_append]; omega)
   ·
    rw [apP, if_pos a, if_neg (by rw [b]; decide)]
   ·
    rw [apP, if_neg (by rw [a]; decide)]
    exact ih (i + 1) k' _ _ (by omega) (by omega) (by rw [List.length_append, List.length_append, List.length_singleton]; omega)
  simp only [diff_Apply.j3]
  cases hb2 : behind cs[i] rest with
  | nil =>
   rw [hb2] at hfin
   rw [if_neg (by simp)]
   simp only [diff_Apply.j4]
   rw [if_neg (by decide)]
   exact hfin [] rfl
  | cons y ys =>
   rw [hb2] at hfin
   have hp : ((y :: ys).length : Int) > 0 := by rw [List.length_cons]; omega
   have r0 : rd_T45 (y :: ys) 0 = y := rfl
   rw [if_pos hp, if_pos hp, r0, before_eq cs[i].f0 y (by omega), Option.bind_some]
   simp only [diff_Apply.j4]
   have ht : there cs[i] (y :: ys) = !lt (key cs[i].f0) (key y) := rfl
   rw [← ht]
   by_cases h : there cs[i] (y :: ys) = true
   ·
    rw [if_pos h, if_pos (show (1 : Int) ≤ ((y :: ys).length : Int) from hp)]
    exact hfin _ (by unfold past; rw [if_pos h])
   ·
    rw [if_neg h]
    exact hfin _ (by unfold past; rw [if_neg h])
def applyS (l : List Rw) (c : List Ch) : List Rw × Int := if rightS l = true then (if rightC c = true then apP c [] l else ([], 9)) else ([], 9)
theorem apply_eq {l : List Rw} {c : List Ch} (sl : ShR l) (ll : l.length ≤ 1000) (sc : ShR (c.map (·.f0))) (lc : c.length ≤ 1000) {k : Nat} (hk : 40000 ≤ k) : diff_Apply.f k l c = some (applyS l c) := by
 obtain ⟨m, rfl⟩ : ∃ m, k = m + 1 := ⟨k - 1, by omega⟩
 unfold diff_Apply.f applyS
 rw [(right_eq sl ll (by omega)).1, Option.bind_some]
 by_cases h : rightS l = true
 ·
  rw [if_pos h, if_pos h, cright_eq sc lc (by omega), Option.bind_some]
  simp only [diff_Apply.j0]
  by_cases h2 : rightC c = true
  ·
   rw [if_pos h2, h2, if_neg (by decide)]
   exact ap_l0 lc c.length 0 m [] l (by omega) (by omega) (by simp; omega)
  ·
   rw [if_neg h2, Bool.eq_false_iff.2 h2, if_pos (by decide)]
 ·
  rw [if_neg h, if_neg h]
  simp only [diff_Apply.j0]
  rw [if_pos trivial]
theorem ahead_app {c : Ch} {out rest : List Rw} (h : ∀ x ∈ out, lt (key x) (ck c) = true) : ahead c (out ++ rest) = out ++ ahead c rest ∧ behind c (out ++ rest) = behind c rest := by
 induction out with
 | nil => exact ⟨rfl, rfl⟩
 | cons x out ih =>
  obtain ⟨h1, h2⟩ := ih (fun y hy => h y (List.mem_cons_of_mem _ hy))
  rw [List.cons_append, ahead_cons, behind_cons, if_pos (h x List.mem_cons_self), if_pos (h x List.mem_cons_self), h1, h2]
  exact ⟨rfl, rfl⟩
end Go.Proofs.YtgcbejidponoaaaGreatDoor.Pure
end
section
namespace Go.Proofs.YtgcbejidponoaaaGreatDoor.Pure
open Go.RowKit Go.Proofs.YtgcbejidponoaaaGreatDoor.X Go.Proofs.YtgcbejidponoaaaGreatDoorW.PrintWords Go.Proofs.YtgcbejidponoaaaGreatDoorW.PrintLast Go.Proofs.YtgcbejidponoaaaGreatDoorW.PrintMore Go.Proofs.YtgcbejidponoaaaGreatDoor.Aid Go.Proofs.YtgcbejidponoaaaGreatDoor.Bytes
theorem mer_bare {a b : List Rw} (ra : Rise a) (rb : Rise b) : (mer a b).all bare = true := by
 rw [List.all_eq_true]
 intro c hc
 rcases (mer_mem c a b ra rb).mp hc with ⟨x, _, e, _⟩ | ⟨y, _, e, _⟩
 ·
  rw [e]; rfl
 ·
  rw [e]; rfl
theorem mer_rightC {a b : List Rw} (ha : rightS a = true) (hb : rightS b = true) : rightC (mer a b) = true := by
 have ra := right_rise ha
 have rb := right_rise hb
 have oa := List.all_eq_true.1 (Bool.and_eq_true_iff.mp ha).2
 have ob := List.all_eq_true.1 (Bool.and_eq_true_iff.mp hb).2
 unfold rightC rightS
 rw [mer_bare ra rb, Bool.true_and, Bool.and_eq_true]
 refine ⟨(riseB_iff _).mpr ?_, List.all_eq_true.2 fun x hx => ?_⟩
 ·
  exact List.pairwise_map.2 (mer_rise a b ra rb)
 ·
  obtain ⟨c, hc, rfl⟩ := List.mem_map.1 hx
  rcases (mer_mem c a b ra rb).mp hc with ⟨x, hx, e, _⟩ | ⟨y, hy, e, _⟩
  ·
   rw [e]; exact oa x hx
  ·
   rw [e]; exact ob y hy
theorem apP_gone {c : Ch} {cs : List Ch} {out pre a l : List Rw} {x : Rw} (hg : c.f1 = true) (hp : ∀ p ∈ pre, lt (key p) (ck c) = true) (ha : a = x :: l) (hk : key x = ck c) : apP (c :: cs) out (pre ++ a) = apP cs (out ++ pre) l := by
 subst ha
 obtain ⟨e1, e2⟩ := ahead_app (rest := x :: l) hp
 have hn : ¬ lt (key x) (ck c) = true := by rw [hk, lt_irrefl]; decide
 have e3 : ahead c (x :: l) = [] := by rw [ahead_cons, if_neg hn]
 have e4 : behind c (x :: l) = x :: l := by rw [behind_cons, if_neg hn]
 have ht : there c (x :: l) = true := by
  show (!lt (ck c) (key x)) = true
  rw [hk, lt_irrefl]
  rfl
 rw [apP, if_pos hg, e1, e2, e3, e4, if_pos ht, List.append_nil]
 unfold past
 rw [if_pos ht]
 rfl
theorem apP_new {c : Ch} {cs : List Ch} {out pre a : List Rw} (hg : c.f1 = false) (hp : ∀ p ∈ pre, lt (key p) (ck c) = true) (ha : ∀ x l, a = x :: l → lt (ck c) (key x) = true) : apP (c :: cs) out (pre ++ a) = apP cs (out ++ pre ++ [c.f0]) a := by
 obtain ⟨e1, e2⟩ := ahead_app (rest := a) hp
 rw [apP, if_neg (by rw [hg]; decide), e1, e2]
 cases a with
 | nil =>
  rw [show ahead c [] = [] from rfl, show behind c [] = [] from rfl, List.append_nil]
  rfl
 | cons x l =>
  have hx := ha x l rfl
  have hn : ¬ lt (key x) (ck c) = true := by rw [lt_asymm hx]; decide
  have ht : there c (x :: l) = false := by
   show (!lt (ck c) (key x)) = false
   rw [hx]
   rfl
  rw [ahead_cons, behind_cons, if_neg hn, if_neg hn, List.append_nil]
  unfold past
  rw [if_neg (by rw [ht]; decide)]
theorem apP_same {c : Ch} {cs : List Ch} {out pre a l : List Rw} {x : Rw} (hg : c.f1 = false) (hp : ∀ p ∈ pre, lt (key p) (ck c) = true) (ha : a = x :: l) (hk : key x = ck c) : apP (c :: cs) out (pre ++ a) = apP cs (out ++ pre ++ [c.f0]) l := by
 subst ha
 obtain ⟨e1, e2⟩ := ahead_app (rest := x :: l) hp
 have hn : ¬ lt (key x) (ck c) = true := by rw [hk, lt_irrefl]; decide
 have ht : there c (x :: l) = true := by
  show (!lt (ck c) (key x)) = true
  rw [hk, lt_irrefl]
  rfl
 rw [apP, if_neg (by rw [hg]; decide), e1, e2, ahead_cons, behind_cons, if_neg hn, if_neg hn, List.append_nil]
 unfold past
 rw [if_pos ht]
 rfl
theorem mer_app : ∀ (a b out pre : List Rw), Rise a → Rise b → (∀ p ∈ pre, (∀ z ∈ a, lt (key p) (key z) = true) ∧ ∀ z ∈ b, lt (key p) (key z) = true) → apP (mer a b) out (pre ++ a) = (out ++ pre ++ b, 0)
 | [], [], out, pre, _, _, _ => by
  rw [mer, apP]
  simp
 | x :: l, [], out, pre, ra, rb, hp => by
  have ra2 := List.pairwise_cons.1 ra
  rw [mer, apP_gone (c := goneC x) (x := x) (l := l) rfl (fun p hq => (hp p hq).1 x List.mem_cons_self) rfl rfl]
  have := mer_app l [] (out ++ pre) [] ra2.2 rb (fun p hq => by simp at hq)
  rw [List.nil_append] at this
  rw [this]
  simp
 | [], y :: m, out, pre, ra, rb, hp => by
  have rb2 := List.pairwise_cons.1 rb
  rw [mer, apP_new (c := newC y) rfl (fun p hq => (hp p hq).2 y List.mem_cons_self) (fun x l e => by cases e)]
  have := mer_app [] m (out ++ pre ++ [y]) [] ra rb2.2 (fun p hq => by simp at hq)
  rw [List.nil_append] at this
  rw [show (newC y).f0 = y from rfl, this]
  simp
 | x :: l, y :: m, out, pre, ra, rb, hp => by
  have ra2 := List.pairwise_cons.1 ra
  have rb2 := List.pairwise_cons.1 rb
  rw [mer]
  by_cases h1 : lt (key x) (key y) = true
  ·
   rw [if_pos h1, apP_gone (c := goneC x) (x := x) (l := l) rfl (fun p hq => (hp p hq).1 x List.mem_cons_self) rfl rfl]
   have := mer_app l (y :: m) (out ++ pre) [] ra2.2 rb (fun p hq => by simp at hq)
   rw [List.nil_append] at this
   rw [this]
   simp
  ·
   rw [if_neg h1]
   by_cases h2 : lt (key y) (key x) = true
   ·
    rw [if_pos h2, apP_new (c := newC y) rfl (fun p hq => (hp p hq).2 y List.mem_cons_self) (fun z l e => by injection e with e1 _; rw [← e1]; exact h2)]
    have := mer_app (x :: l) m (out ++ pre ++ [y]) [] ra rb2.2 (fun p hq => by simp at hq)
    rw [List.nil_append] at this
    rw [show (newC y).f0 = y from rfl, this]
    simp
   ·
    rw [if_neg h2]
    have hk : key x = key y := by
     rcases lt_total (key x) (key y) with h | h | h
     ·
      exact absurd h h1
     ·
      exact h
     ·
      exact absurd h h2
    by_cases h3 : x = y
    ·
     rw [if_pos h3]
     have := mer_app l m out (pre ++ [x]) ra2.2 rb2.2 (fun p hq => by
      rcases List.mem_append.1 hq with hq | hq
      ·
       exact ⟨fun z hz => (hp p hq).1 z (List.mem_cons_of_mem _ hz), fun z hz => (hp p hq).2 z (List.mem_cons_of_mem _ hz)⟩
      ·
       rw [List.mem_singleton.1 hq]
       exact ⟨ra2.1, fun z hz => by rw [hk]; exact rb2.1 z hz⟩)
     rw [List.append_assoc] at this
     rw [show pre ++ x :: l = pre ++ ([x] ++ l) from rfl, this, h3]
     simp
    ·
     rw [if_neg h3, apP_same (c := newC y) (x := x) (l := l) rfl (fun p hq => (hp p hq).2 y List.mem_cons_self) rfl hk]
     have := mer_app l m (out ++ pre ++ [y]) [] ra2.2 rb2.2 (fun p hq => by simp at hq)
     rw [List.nil_append] at this
     rw [show (newC y).f0 = y from rfl, this]
     simp
termination_by a b => a.length + b.length
theorem apply_of {a b : List Rw} (ha : rightS a = true) (hb : rightS b = true) : applyS a (mer a b) = (b, 0) := by
 unfold applyS
 rw [if_pos ha, if_pos (mer_rightC ha hb)]
 have := mer_app a b [] [] (right_rise ha) (right_rise hb) (fun p hq => by simp at hq)
 rw [List.nil_append] at this
 rw [this]
 rfl
theorem mer_sh {a b : List Rw} (ra : Rise a) (rb : Rise b) (sa : ShR a) (sb : ShR b) : ShR ((mer a b).map (·.f0)) := fun x hx => by
 obtain ⟨c, hc, rfl⟩ := List.mem_map.1 hx
 rcases (mer_mem c a b ra rb).mp hc with ⟨x, hx, e, _⟩ | ⟨y, hy, e, _⟩
 ·
  rw [e]; exact sa x hx
 ·
  rw [e]; exact sb y hy
end Go.Proofs.YtgcbejidponoaaaGreatDoor.Pure
end
section
namespace Go.Proofs.YtgcbejidponoaaaGreatDoor.Pure
open Go.RowKit Go.Proofs.YtgcbejidponoaaaGreatDoor.X Go.Proofs.YtgcbejidponoaaaGreatDoorW.PrintWords Go.Proofs.YtgcbejidponoaaaGreatDoorW.PrintLast Go.Proofs.YtgcbejidponoaaaGreatDoorW.PrintMore Go.Proofs.YtgcbejidponoaaaGreatDoor.Aid Go.Proofs.YtgcbejidponoaaaGreatDoor.Bytes
theorem rcright_l0 {l : List Ch} (hs : ShR (l.map (·.f0))) (hl : l.length ≤ 1000) (d : Nat) : ∀ (i k : Nat), i + d = l.length → d + 36000 < k → (∀ c ∈ l.take i, bare c = true) →
 r09_Right.l0 k l ((l.take i).map (·.f0)) (i : Int) = some (rightC l) := by
 induction d with
 | zero =>
  intro i k hi hk hb
  obtain ⟨k, rfl⟩ := succ_of hk
  have ht : l.take i = l := List.take_of_length_le (by omega)
  rw [ht] at hb ⊢
  simp only [r09_Right.l0]
  rw [if_neg (by omega), (right_eq hs (by rw [List.length_map]; exact hl) (by omega)).2, Option.bind_some]
  unfold rightC
  rw [List.all_eq_true.2 hb, Bool.true_and]
 | succ d ih =>
  intro i k hi hk hb
  obtain ⟨k, rfl⟩ := succ_of hk
  have hlt : i < l.length := by omega
  have h0 : (l.take (i + 1)).map (·.f0) = (l.take i).map (·.f0) ++ [l[i].f0] := by rw [take_at hlt, List.map_append]; rfl
  have hlen : ((l.take i).map (·.f0)).length < 3518437208883 := by rw [List.length_map, List.length_take]; omega
  simp only [r09_Right.l0]
  rw [if_pos (by omega), if_pos (by omega), rdC hlt, w64s (by omega)]
  have hnext : bare l[i] = true → r09_Right.l0 k l ((l.take i).map (·.f0) ++ [l[i].f0]) ((i + 1 : Nat) : Int) = some (rightC l) := fun hbi => by
   rw [← h0]
   refine ih (i + 1) k (by omega) (by omega) fun c hc => ?_
   rw [take_at hlt, List.mem_append, List.mem_singleton] at hc
   rcases hc with hc | rfl
   ·
    exact hb c hc
   ·
    exact hbi
  by_cases hg : l[i].f1 = true
  ·
   rw [if_pos hg]
   have hv : (!(l[i].f0.f2.f0 == 0) || l[i].f0.f2.f1) = !bare l[i] := by
    unfold bare
    rw [hg]
    cases l[i].f0.f2.f1 <;> simp
   rw [hv]
   by_cases hbi : bare l[i] = true
   ·
    rw [hbi, if_neg (by decide), if_pos hlen]
    exact hnext hbi
   ·
    rw [Bool.eq_false_iff.2 hbi, if_pos (show (!false) = true from rfl)]
    unfold rightC
    have : l.all bare = false := by
     rw [Bool.eq_false_iff]
     intro h
     exact hbi (List.all_eq_true.1 h _ (List.getElem_mem hlt))
    rw [this, Bool.false_and]
  ·
   rw [if_neg hg, if_pos hlen]
   exact hnext (by unfold bare; rw [Bool.eq_false_iff.2 hg]; rfl)
theorem rcright_eq {l : List Ch} (hs : ShR (l.map (·.f0))) (hl : l.length ≤ 1000) {k : Nat} (hk : 37100 ≤ k) : r09_Right.f k l = some (rightC l) :=
 rcright_l0 hs hl l.length 0 k (by omega) (by omega) (fun c hc => by simp at hc)
end Go.Proofs.YtgcbejidponoaaaGreatDoor.Pure
end
section
namespace Go.Proofs.YtgcbejidponoaaaGreatDoor.Pure
open Go.RowKit Go.Proofs.YtgcbejidponoaaaGreatDoor.X Go.Proofs.YtgcbejidponoaaaGreatDoorW.PrintWords Go.Proofs.YtgcbejidponoaaaGreatDoorW.PrintLast Go.Proofs.YtgcbejidponoaaaGreatDoorW.PrintMore Go.Proofs.YtgcbejidponoaaaGreatDoor.Aid Go.Proofs.YtgcbejidponoaaaGreatDoor.Bytes
theorem ch_ne (x y : Ch) : (((!(x.f0.f0 == y.f0.f0) || (!(x.f0.f1.toList == y.f0.f1.toList) || (!(x.f0.f2.f0 == y.f0.f2.f0) || !(x.f0.f2.f1 == y.f0.f2.f1)))) || !(x.f1 == y.f1)) = true) ↔ x ≠ y := by
 rw [Bool.or_eq_true, rw_ne, Bool.not_eq_true', beq_eq_false_iff_ne]
 obtain ⟨a, p⟩ := x
 obtain ⟨b, q⟩ := y
 simp only [ne_eq, S48.mk.injEq]
 by_cases h1 : a = b <;> by_cases h2 : p = q <;> simp [h1, h2]
noncomputable instance : DecidableEq Ch := Classical.typeDecidableEq _
theorem sameC_l0 {a b : List Ch} (hn : a.length < 100000) (he : a.length = b.length) (d : Nat) : ∀ (i k : Nat), i + d = a.length → d < k →
 r09_Same.l0 k a b (i : Int) = some (decide (a.drop i = b.drop i)) ∧ api_Change.l0 k a b (a.length : Int) (i : Int) = some (decide (a.drop i = b.drop i)) := by
 induction d with
 | zero =>
  intro i k hi hk
  obtain ⟨k, rfl⟩ := succ_of hk
  simp only [r09_Same.l0, api_Change.l0]
  rw [if_neg (by omega), if_neg (by omega), List.drop_of_length_le (by omega), List.drop_of_length_le (by omega)]
  simp
 | succ d ih =>
  intro i k hi hk
  obtain ⟨k, rfl⟩ := succ_of hk
  have hlt : i < a.length := by omega
  have hlb : i < b.length := by omega
  obtain ⟨i1, i2⟩ := ih (i + 1) k (by omega) (by omega)
  rw [drop_at hlt, drop_at hlb]
  have c1 : (i : Int) < (a.length : Int) := by omega
  have c2 : (i : Int) < (b.length : Int) := by omega
  have c0 : 0 ≤ (i : Int) := by omega
  by_cases h : a[i] = b[i]
  ·
   have hc := mt (ch_ne a[i] b[i]).mp (fun hne => hne h)
   have e : decide (a[i] :: a.drop (i + 1) = b[i] :: b.drop (i + 1)) = decide (a.drop (i + 1) = b.drop (i + 1)) := decide_eq_decide.mpr ⟨fun e => (List.cons.inj e).2, fun e => by rw [e, h]⟩
   rw [e]
   refine ⟨?_, ?_⟩
   ·
    simp only [r09_Same.l0]
    rw [if_pos c1, if_pos c0, if_pos c2, rdC hlt, rdC hlb, if_neg hc, w64s (by omega), i1]
   ·
    simp only [api_Change.l0]
    rw [if_pos c1, if_pos c0, if_pos c1, if_pos c2, rdC hlt, rdC hlb, if_neg hc, w64s (by omega), i2]
  ·
   have hc := (ch_ne a[i] b[i]).mpr h
   have e : decide (a[i] :: a.drop (i + 1) = b[i] :: b.drop (i + 1)) = false := decide_eq_false (fun e => h (List.cons.inj e).1)
   rw [e]
   refine ⟨?_, ?_⟩
   ·
    simp only [r09_Same.l0]
    rw [if_pos c1, if_pos c0, if_pos c2, rdC hlt, rdC hlb, if_pos hc]
   ·
    simp only [api_Change.l0]
    rw [if_pos c1, if_pos c0, if_pos c1, if_pos c2, rdC hlt, rdC hlb, if_pos hc]
theorem sameC_eq {a b : List Ch} (hn : a.length < 100000) {k : Nat} (hk : a.length < k) : r09_Same.f k a b = some (decide (a = b)) ∧ diff_Same.f k a b = some (decide (a = b)) := by
 unfold r09_Same.f diff_Same.f api_Change.f
 by_cases h : a.length = b.length
 ·
  have := sameC_l0 hn h a.length 0 k (by omega) hk
  rw [if_pos (by omega), if_pos (by omega)]
  refine ⟨this.1, ?_⟩
  have h2 := this.2
  rw [List.drop_zero, List.drop_zero] at h2
  rw [show (0 : Int) = ((0 : Nat) : Int) from rfl, h2]
  rfl
 ·
  have e : decide (a = b) = false := decide_eq_false (fun e => h (by rw [e]))
  rw [if_neg (by omega), if_neg (by omega), e]
  exact ⟨rfl, rfl⟩
end Go.Proofs.YtgcbejidponoaaaGreatDoor.Pure
end
section
namespace Go.Proofs.YtgcbejidponoaaaGreatDoor.Pure
open Go.RowKit Go.Proofs.YtgcbejidponoaaaGreatDoor.X Go.Proofs.YtgcbejidponoaaaGreatDoorW.PrintWords Go.Proofs.YtgcbejidponoaaaGreatDoorW.PrintLast Go.Proofs.YtgcbejidponoaaaGreatDoorW.PrintMore Go.Proofs.YtgcbejidponoaaaGreatDoor.Aid Go.Proofs.YtgcbejidponoaaaGreatDoor.Bytes
theorem alive_eq (k : Nat) (hk : 100 ≤ k) : w09_alive.f k = some true :=
 at_rounds (g := fun k => w09_alive.f k) w09_alive.mono hk (by decide +kernel)
end Go.Proofs.YtgcbejidponoaaaGreatDoor.Pure
end
section
namespace Go.Proofs.YtgcbejidponoaaaGreatDoor.Pure
open Go.RowKit Go.Proofs.YtgcbejidponoaaaGreatDoor.X Go.Proofs.YtgcbejidponoaaaGreatDoorW.PrintWords Go.Proofs.YtgcbejidponoaaaGreatDoorW.PrintLast Go.Proofs.YtgcbejidponoaaaGreatDoorW.PrintMore Go.Proofs.YtgcbejidponoaaaGreatDoor.Aid Go.Proofs.YtgcbejidponoaaaGreatDoor.Bytes
theorem sameR_l0 {a b : List Rw} (hn : a.length < 100000) (he : a.length = b.length) (d : Nat) : ∀ (i k : Nat), i + d = a.length → d < k → r08_Same.l0 k a b (i : Int) = some (decide (a.drop i = b.drop i)) := by
 induction d with
 | zero =>
  intro i k hi hk
  obtain ⟨k, rfl⟩ := succ_of hk
  simp only [r08_Same.l0]
  rw [if_neg (by omega), List.drop_of_length_le (by omega), List.drop_of_length_le (by omega)]
  simp
 | succ d ih =>
  intro i k hi hk
  obtain ⟨k, rfl⟩ := succ_of hk
  have hlt : i < a.length := by omega
  have hlb : i < b.length := by omega
  have i1 := ih (i + 1) k (by omega) (by omega)
  simp only [r08_Same.l0]
  rw [drop_at hlt, drop_at hlb, if_pos (by omega), if_pos (by omega), if_pos (by omega), rdR hlt, rdR hlb]
  by_cases h : a[i] = b[i]
  ·
   rw [if_neg (mt (rw_ne a[i] b[i]).mp (fun hne => hne h)), w64s (by omega), i1]
   exact congrArg some (decide_eq_decide.mpr ⟨fun e => by rw [e, h], fun e => (List.cons.inj e).2⟩)
  ·
   rw [if_pos ((rw_ne a[i] b[i]).mpr h)]
   exact congrArg some (decide_eq_false (fun e => h (List.cons.inj e).1)).symm
theorem sameR_eq {a b : List Rw} (hn : a.length < 100000) {k : Nat} (hk : a.length < k) : r08_Same.f k a b = some (decide (a = b)) := by
 unfold r08_Same.f
 by_cases h : a.length = b.length
 ·
  rw [if_pos (by omega)]
  exact sameR_l0 hn h a.length 0 k (by omega) hk
 ·
  rw [if_neg (by omega)]
  exact congrArg some (decide_eq_false (fun e => h (by rw [e]))).symm
theorem rgreat_l0 {l : List Rw} (hl : l.length ≤ 100000) (d : Nat) : ∀ (i k : Nat), i + d = l.length → d < k → ∃ r, r08_Great.l0 k l (i : Int) = some r ∧ (r = false → ∀ x ∈ l.drop i, x.f1.size ≤ 300) := by
 induction d with
 | zero =>
  intro i k hi hk
  obtain ⟨k, rfl⟩ := succ_of hk
  simp only [r08_Great.l0]
  rw [if_neg (by omega), List.drop_of_length_le (by omega)]
  exact ⟨_, rfl, fun _ x hx => absurd hx (by simp)⟩
 | succ d ih =>
  intro i k hi hk
  obtain ⟨k, rfl⟩ := succ_of hk
  have hlt : i < l.length := by omega
  simp only [r08_Great.l0]
  rw [if_pos (by omega), if_pos (by omega), w64s (by omega), rdR hlt]
  obtain ⟨r, hr, h2⟩ := ih (i + 1) k (by omega) (by omega)
  rw [hr]
  by_cases h : (l[i].f1.size : Int) > 300
  ·
   rw [if_pos h]
   exact ⟨_, rfl, fun e => by cases e⟩
  ·
   rw [if_neg h]
   refine ⟨r, rfl, fun e x hx => ?_⟩
   rw [drop_at hlt, List.mem_cons] at hx
   rcases hx with rfl | hx
   ·
    omega
   ·
    exact h2 e x hx
def Fine (l : List Rw) : Prop := l.length ≤ 100 ∧ ∀ x ∈ l, GRow x ∧ x.f1.size ≤ 300
theorem rgreat_eq (l : List Rw) (hq : ∀ x ∈ l, Q45 x) {k : Nat} (hk : 110 ≤ k) : r08_Great.f k l = some true ∨ (r08_Great.f k l = some false ∧ Fine l) := by
 unfold r08_Great.f
 by_cases h : (l.length : Int) > 100
 ·
  rw [if_pos h]
  exact .inl rfl
 ·
  rw [if_neg h]
  obtain ⟨r, h1, h2⟩ := rgreat_l0 (l := l) (by omega) l.length 0 k (by omega) (by omega)
  cases r
  ·
   refine .inr ⟨h1, by omega, fun x hx => ?_⟩
   have h3 := h2 rfl x hx
   have h4 := hq x hx
   exact ⟨⟨wf64 h4.1, by omega, wf64 h4.2.2.1⟩, h3⟩
  ·
   exact .inl h1
theorem fine_sh {l : List Rw} (h : Fine l) : ShR l := fun x hx => by have := (h.2 x hx).2; omega
end Go.Proofs.YtgcbejidponoaaaGreatDoor.Pure
end
section
namespace Go.Proofs.YtgcbejidponoaaaGreatDoor.Pure
open Go.RowKit Go.Proofs.YtgcbejidponoaaaGreatDoor.X Go.Proofs.YtgcbejidponoaaaGreatDoorW.PrintWords Go.Proofs.YtgcbejidponoaaaGreatDoorW.PrintLast Go.Proofs.YtgcbejidponoaaaGreatDoorW.PrintMore Go.Proofs.YtgcbejidponoaaaGreatDoor.Aid Go.Proofs.YtgcbejidponoaaaGreatDoor.Bytes
theorem cgreat_l0 {l : List Ch} (hl : l.length ≤ 100000) (d : Nat) : ∀ (i k : Nat), i + d = l.length → d < k → ∃ r, r09_Great.l0 k l (i : Int) = some r ∧ (r = false → ∀ x ∈ l.drop i, x.f0.f1.size ≤ 300) := by
 induction d with
 | zero =>
  intro i k hi hk
  obtain ⟨k, rfl⟩ := succ_of hk
  simp only [r09_Great.l0]
  rw [if_neg (by omega), List.drop_of_length_le (by omega)]
  exact ⟨_, rfl, fun _ x hx => absurd hx (by simp)⟩
 | succ d ih =>
  intro i k hi hk
  obtain ⟨k, rfl⟩ := succ_of hk
  have hlt : i < l.length := by omega
  simp only [r09_Great.l0]
  rw [if_pos (by omega), if_pos (by omega), w64s (by omega), rdC hlt]
  obtain ⟨r, hr, h2⟩ := ih (i + 1) k (by omega) (by omega)
  rw [hr]
  by_cases h : (l[i].f0.f1.size : Int) > 300
  ·
   rw [if_pos h]
   exact ⟨_, rfl, fun e => by cases e⟩
  ·
   rw [if_neg h]
   refine ⟨r, rfl, fun e x hx => ?_⟩
   rw [drop_at hlt, List.mem_cons] at hx
   rcases hx with rfl | hx
   ·
    omega
   ·
    exact h2 e x hx
def FineC (l : List Ch) : Prop := l.length ≤ 100 ∧ ∀ x ∈ l, GRow x.f0 ∧ x.f0.f1.size ≤ 300
theorem cgreat_eq (l : List Ch) (hq : ∀ x ∈ l, Q48 x) {k : Nat} (hk : 110 ≤ k) : r09_Great.f k l = some true ∨ (r09_Great.f k l = some false ∧ FineC l) := by
 unfold r09_Great.f
 by_cases h : (l.length : Int) > 100
 ·
  rw [if_pos h]
  exact .inl rfl
 ·
  rw [if_neg h]
  obtain ⟨r, h1, h2⟩ := cgreat_l0 (l := l) (by omega) l.length 0 k (by omega) (by omega)
  cases r
  ·
   refine .inr ⟨h1, by omega, fun x hx => ?_⟩
   have h3 := h2 rfl x hx
   have h4 := (hq x hx).1
   exact ⟨⟨wf64 h4.1, by omega, wf64 h4.2.2.1⟩, h3⟩
  ·
   exact .inl h1
theorem fineC_sh {l : List Ch} (h : FineC l) : ShR (l.map (·.f0)) := fun x hx => by
 obtain ⟨c, hc, rfl⟩ := List.mem_map.1 hx
 have := (h.2 c hc).2
 omega
end Go.Proofs.YtgcbejidponoaaaGreatDoor.Pure
end
section
namespace Go.Proofs.YtgcbejidponoaaaGreatDoor.Pure
open Go.RowKit Go.Proofs.YtgcbejidponoaaaGreatDoor.X Go.Proofs.YtgcbejidponoaaaGreatDoorW.PrintWords Go.Proofs.YtgcbejidponoaaaGreatDoorW.PrintLast Go.Proofs.YtgcbejidponoaaaGreatDoorW.PrintMore Go.Proofs.YtgcbejidponoaaaGreatDoor.Aid Go.Proofs.YtgcbejidponoaaaGreatDoor.Bytes
theorem fineC_good {l : List Ch} (h : FineC l) : GCh l := ⟨by have := h.1; omega, fun c hc => (h.2 c hc).1⟩
theorem mer_none : ∀ a : List Rw, Rise a → mer a a = []
 | [], _ => by rw [mer]
 | x :: l, h => by
  have h2 := List.pairwise_cons.1 h
  rw [mer, if_neg (by rw [lt_irrefl]; decide), if_neg (by rw [lt_irrefl]; decide), if_pos rfl, mer_none l h2.2]
theorem mer_iff {a b : List Rw} (ha : rightS a = true) (hb : rightS b = true) : mer a b = [] ↔ a = b := by
 constructor
 ·
  intro h
  have := apply_of ha hb
  rw [h] at this
  unfold applyS at this
  rw [if_pos ha, if_pos (by rfl), apP] at this
  have e := congrArg Prod.fst this
  simpa using e
 ·
  rintro rfl
  exact mer_none a (right_rise ha)
theorem fit_of {c : List Ch} (h : FineC c) (hr : rightC c = true) : ∀ x ∈ c, FitC x := fun x hx => by
 have h1 := Bool.and_eq_true_iff.mp hr
 have h2 := List.all_eq_true.1 h1.1 x hx
 have h3 := List.all_eq_true.1 (Bool.and_eq_true_iff.mp h1.2).2 x.f0 (List.mem_map.2 ⟨x, hx, rfl⟩)
 exact ⟨(h.2 x hx).1, (h.2 x hx).2, h2, of_decide_eq_true h3⟩
theorem back_j1 {a b : List Rw} (fa : Fine a) (fb : Fine b) {k : Nat} (hk : 100000 ≤ k) : w09_DiffBack.j1 (k + 1) a b = some true := by
 have la := fa.1
 have lb := fb.1
 rw [w09_DiffBack.j1, of_eq (fine_sh fa) (fine_sh fb) (by omega) (by omega) (by omega), Option.bind_some]
 unfold ofS
 by_cases ra : rightS a = true
 ·
  rw [if_pos ra]
  by_cases rb : rightS b = true
  ·
   have hm := mer_len a b
   have hs := mer_sh (right_rise ra) (right_rise rb) (fine_sh fa) (fine_sh fb)
   rw [if_pos rb]
   dsimp only
   rw [if_pos rfl, apply_eq (fine_sh fa) (by omega) hs (by omega) (by omega), Option.bind_some, apply_of ra rb]
   dsimp only
   rw [if_pos rfl, sameR_eq (by omega) (by omega), Option.bind_some, if_pos (by simp), sameR_eq (by omega) (by omega), Option.bind_some, rcright_eq hs (by omega) (by omega), Option.bind_some, mer_rightC ra rb]
   have hi := mer_iff ra rb
   have hd : ((((mer a b).length : Int) == 0) == decide (a = b)) = true := by
    by_cases h : a = b
    ·
     rw [decide_eq_true h, hi.2 h]
     rfl
    ·
     have h2 : (mer a b).length ≠ 0 := fun e => h (hi.1 (List.eq_nil_of_length_eq_zero e))
     rw [decide_eq_false h, beq_eq_false_iff_ne.2 (show ((mer a b).length : Int) ≠ 0 by omega)]
     rfl
   rw [if_pos hd]
  ·
   rw [if_neg rb]
   rfl
 ·
  rw [if_neg ra]
  rfl
theorem DiffBack : w09_DiffBack.Pure := by
 intro a b c qa _ qb _ qc _
 obtain ⟨K, hK⟩ : ∃ K : Nat, 100000 ≤ K := ⟨_, Nat.le_refl _⟩
 refine ⟨K + 1 + 1, ?_⟩
 unfold w09_DiffBack.f
 rw [alive_eq _ (by omega), Option.bind_some, if_pos rfl]
 rcases rgreat_eq a qa.2 (k := K + 1 + 1) (by omega) with h | ⟨h, fa⟩
 ·
  rw [h, Option.bind_some, if_pos rfl, w09_DiffBack.j0, if_pos rfl]
 ·
  rw [h, Option.bind_some, if_neg (by decide)]
  rcases rgreat_eq b qb.2 (k := K + 1 + 1) (by omega) with h2 | ⟨h2, fb⟩
  ·
   rw [h2, Option.bind_some, if_pos rfl, w09_DiffBack.j0, if_pos rfl]
  ·
   rw [h2, Option.bind_some, if_neg (by decide)]
   rcases cgreat_eq c qc.2 (k := K + 1 + 1) (by omega) with h3 | ⟨h3, fc⟩
   ·
    rw [h3, Option.bind_some, w09_DiffBack.j0, if_pos rfl]
   ·
    have lc := fc.1
    rw [h3, Option.bind_some, w09_DiffBack.j0, if_neg (by decide), rcright_eq (fineC_sh fc) (by omega) (by omega), Option.bind_some]
    by_cases hr : rightC c = true
    ·
     rw [if_pos hr, ctext_eq (fineC_good fc) (by omega), Option.bind_some, parse_fit (fit_of fc hr) fc.1 hr (by omega), Option.bind_some]
     dsimp only
     rw [if_pos rfl, (sameC_eq (by omega) (by omega)).1, Option.bind_some, if_pos (by simp)]
     exact back_j1 fa fb (by omega)
    ·
     rw [if_neg hr]
     exact back_j1 fa fb (by omega)
end Go.Proofs.YtgcbejidponoaaaGreatDoor.Pure
end
