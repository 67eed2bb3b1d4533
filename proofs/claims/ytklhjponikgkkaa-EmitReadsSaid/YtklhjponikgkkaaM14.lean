/- Plain facts on what the printed functions compute, joined; each says its conditions. -/
import Derived.Test.YtklhjponikgkkaaM1
import Derived.Test.YtklhjponikgkkaaM7
import Derived.Test.YtklhjponikgkkaaM4
import Derived.Test.YtklhjponikgkkaaM11
import Derived.Test.YtklhjponikgkkaaM13
import Derived.Test.YtklhjponikgkkaaM12
section
namespace Go.Proofs.Ytklhjponikgkkaa.Pure
open Go.RowKit Go.Proofs.Ytklhjponikgkkaa.X Go.Proofs.YtklhjponikgkkaaW.PrintWords Go.Proofs.YtklhjponikgkkaaW.PrintLast Go.Proofs.YtklhjponikgkkaaW.PrintMore Go.Proofs.Ytklhjponikgkkaa.Aid
abbrev W := S96
theorem rdW {l : List W} {i : Nat} (h : i < l.length) : rd_T96 l (i : Int) = l[i] := getD_at h _
def LM : Nat := 2932031007402
abbrev E := S70
theorem rdE {l : List E} {i : Nat} (h : i < l.length) : rd_T70 l (i : Int) = l[i] := getD_at h _
def small (l : List E) : Prop := l.length ≤ 100 ∧ ∀ e ∈ l, e.f2.length ≤ 100 ∧ e.f1.size ≤ 300
def small1 (l : List E) : Prop := l.length ≤ 101 ∧ ∀ e ∈ l, e.f2.length ≤ 101
theorem small.one {l : List E} (h : small l) : small1 l := ⟨Nat.le_succ_of_le h.1, fun e he => Nat.le_succ_of_le (h.2 e he).1⟩
theorem small1_at {l : List E} (h : small1 l) {i : Nat} (hi : i < l.length) : l[i].f2.length ≤ 101 := h.2 _ (List.getElem_mem hi)
def great (l : List E) : Bool := l.any fun e => decide (e.f2.length > 100) || decide (e.f1.size > 300)
theorem great_l0 {l : List E} (hn : l.length ≤ 100) (d : Nat) : ∀ (i k : Nat), i + d = l.length → d < k → r11_Great.l0 k (i : Int) l = some (great (l.drop i)) := by
 induction d with
 | zero =>
  intro i k hi hk
  obtain ⟨k, rfl⟩ := succ_of hk
  simp only [r11_Great.l0]
  rw [if_neg (by omega), List.drop_of_length_le (by omega)]
  rfl
 | succ d ih =>
  intro i k hi hk
  obtain ⟨k, rfl⟩ := succ_of hk
  have hlt : i < l.length := by omega
  simp only [r11_Great.l0]
  rw [if_pos (by omega), if_pos (by omega), rdE hlt, drop_at hlt, w64s (by omega), ih (i + 1) k (by omega) (by omega)]
  by_cases c1 : ((l[i].f2).length : Int) > 100
  ·
   rw [if_pos c1]
   have c2 : l[i].f2.length > 100 := by omega
   simp only [great, List.any_cons, decide_eq_true c2, Bool.true_or]
  ·
   rw [if_neg c1]
   have c2 : ¬ l[i].f2.length > 100 := by omega
   by_cases c3 : ((l[i].f1).size : Int) > 300
   ·
    rw [if_pos c3]
    have c4 : l[i].f1.size > 300 := by omega
    simp only [great, List.any_cons, decide_eq_true c4, Bool.or_true, Bool.true_or]
   ·
    rw [if_neg c3]
    have c4 : ¬ l[i].f1.size > 300 := by omega
    simp only [great, List.any_cons, decide_eq_false c2, decide_eq_false c4, Bool.or_self, Bool.false_or]
theorem great_or (l : List E) (k : Nat) (hk : 100 < k) : r11_Great.f k l = some true ∨ (r11_Great.f k l = some false ∧ small l) := by
 unfold r11_Great.f
 by_cases h : (l.length : Int) > 100
 ·
  exact .inl (if_pos h)
 ·
  rw [if_neg h]
  have h0 := great_l0 (l := l) (by omega) l.length 0 k (by omega) (by omega)
  rw [show ((0 : Nat) : Int) = 0 from rfl, List.drop_zero] at h0
  rw [h0]
  cases hg : great l with
  | true => exact .inl rfl
  | false =>
   refine .inr ⟨rfl, by omega, fun e he => ?_⟩
   have := List.any_eq_false.1 hg e he
   simp only [Bool.or_eq_true, decide_eq_true_eq, not_or] at this
   omega
end Go.Proofs.Ytklhjponikgkkaa.Pure
end
section
namespace Go.Proofs.Ytklhjponikgkkaa.Pure
open Go.RowKit Go.Proofs.Ytklhjponikgkkaa.X Go.Proofs.YtklhjponikgkkaaW.PrintWords Go.Proofs.YtklhjponikgkkaaW.PrintLast Go.Proofs.YtklhjponikgkkaaW.PrintMore Go.Proofs.Ytklhjponikgkkaa.Aid
abbrev Sh := S50
theorem rdS {l : List Sh} {i : Nat} (h : i < l.length) : rd_T50 l (i : Int) = l[i] := getD_at h _
def ents (l : List Sh) : List E := (l.map (·.f0)).flatten
theorem ents_cons (x : Sh) (l : List Sh) : ents (x :: l) = x.f0 ++ ents l := rfl
theorem ents_take {l : List Sh} {i : Nat} (h : i < l.length) : ents (l.take (i + 1)) = ents (l.take i) ++ l[i].f0 := by
 unfold ents
 rw [take_at h, List.map_append, List.flatten_append]
 simp
def few (l : List Sh) : Prop := l.length ≤ 8 ∧ ∀ s ∈ l, s.f0.length ≤ 30 ∧ small s.f0
theorem ents_len : ∀ {l : List Sh}, (∀ s ∈ l, s.f0.length ≤ 30) → (ents l).length ≤ 30 * l.length
 | [], _ => by simp [ents]
 | x :: l, h => by
  have h1 := h x List.mem_cons_self
  have h2 := ents_len (l := l) fun s hs => h s (List.mem_cons_of_mem _ hs)
  rw [ents_cons, List.length_append, List.length_cons]
  omega
theorem few_ents {l : List Sh} (h : few l) : (ents l).length ≤ 240 := by
 have h1 := h.1
 have h2 := ents_len fun s hs => (h.2 s hs).1
 omega
theorem few_vers {l : List Sh} (h : few l) : ∀ e ∈ ents l, e.f2.length ≤ 100 := fun e he => by
 unfold ents at he
 obtain ⟨es, h1, h2⟩ := List.mem_flatten.1 he
 obtain ⟨s, h3, rfl⟩ := List.mem_map.1 h1
 exact ((h.2 s h3).2.2 e h2).1
theorem ents_le (l : List Sh) (i : Nat) : (ents (l.take i)).length ≤ (ents l).length := by
 conv => rhs; rw [← List.take_append_drop i l]
 unfold ents
 rw [List.map_append, List.flatten_append, List.length_append]
 omega
theorem entries_l0 {l : List Sh} (h : few l) (d : Nat) : ∀ (i k : Nat), i + d = l.length → d < k → emit_entries.l0 k (ents (l.take i)) l (l.length : Int) (i : Int) = some (ents l) := by
 have hn := h.1
 have he := few_ents h
 induction d with
 | zero =>
  intro i k hi hk
  obtain ⟨k, rfl⟩ := succ_of hk
  simp only [emit_entries.l0]
  rw [if_neg (by omega), List.take_of_length_le (by omega)]
 | succ d ih =>
  intro i k hi hk
  obtain ⟨k, rfl⟩ := succ_of hk
  have hlt : i < l.length := by omega
  have h1 := ents_le l (i + 1)
  rw [ents_take hlt, List.length_append] at h1
  simp only [emit_entries.l0]
  rw [if_pos (by omega), if_pos (by omega), if_pos (by omega), rdS hlt, w64s (by omega)]
  rw [if_pos (by omega), ← ents_take hlt]
  exact ih (i + 1) k (by omega) (by omega)
theorem entries_eq {l : List Sh} (h : few l) (k : Nat) (hk : 10 < k) : emit_entries.f k l = some (ents l) :=
 entries_l0 h l.length 0 k (by omega) (by have := h.1; omega)
theorem hgreat_l0 {l : List Sh} (hn : l.length ≤ 8) (d : Nat) : ∀ (i k : Nat), i + d = l.length → d + 120 < k → r16_Great.l0 k l (i : Int) = some true ∨ (r16_Great.l0 k l (i : Int) = some false ∧ ∀ s ∈ l.drop i, s.f0.length ≤ 30 ∧ small s.f0) := by
 induction d with
 | zero =>
  intro i k hi hk
  obtain ⟨k, rfl⟩ := succ_of (show 0 < k by omega)
  simp only [r16_Great.l0]
  rw [if_neg (by omega), List.drop_of_length_le (by omega)]
  exact .inr ⟨rfl, fun s hs => absurd hs (by simp)⟩
 | succ d ih =>
  intro i k hi hk
  obtain ⟨k, rfl⟩ := succ_of (show 0 < k by omega)
  have hlt : i < l.length := by omega
  simp only [r16_Great.l0]
  rw [if_pos (by omega), if_pos (by omega), rdS hlt, drop_at hlt, w64s (by omega)]
  rcases great_or l[i].f0 k (by omega) with h | ⟨h, hs⟩
  ·
   rw [h]
   exact .inl rfl
  ·
   rw [h, Option.bind_some, if_neg (by decide)]
   by_cases c : (l[i].f0.length : Int) > 30
   ·
    rw [if_pos c]
    exact .inl rfl
   ·
    rw [if_neg c]
    rcases ih (i + 1) k (by omega) (by omega) with g | ⟨g, gs⟩
    ·
     exact .inl g
    ·
     refine .inr ⟨g, fun s hm => ?_⟩
     rcases List.mem_cons.1 hm with e | e
     ·
      rw [e]
      exact ⟨by omega, hs⟩
     ·
      exact gs s e
theorem hgreat_eq (l : List Sh) (k : Nat) (hk : 140 < k) : r16_Great.f k l = some true ∨ (r16_Great.f k l = some false ∧ few l) := by
 unfold r16_Great.f
 by_cases c : (l.length : Int) > 8
 ·
  rw [if_pos c]
  exact .inl rfl
 ·
  rw [if_neg c]
  rcases hgreat_l0 (l := l) (by omega) l.length 0 k (by omega) (by omega) with h | ⟨h, hs⟩
  ·
   exact .inl h
  ·
   exact .inr ⟨h, by omega, hs⟩
end Go.Proofs.Ytklhjponikgkkaa.Pure
end
section
namespace Go.Proofs.Ytklhjponikgkkaa.Pure
open Go.RowKit Go.Proofs.Ytklhjponikgkkaa.X Go.Proofs.YtklhjponikgkkaaW.PrintWords Go.Proofs.YtklhjponikgkkaaW.PrintLast Go.Proofs.YtklhjponikgkkaaW.PrintMore Go.Proofs.Ytklhjponikgkkaa.Aid
def nw (s : Int) : Nat → Int → List W → Int
 | _, acc, [] => acc
 | i, acc, x :: l => nw s (i + 1) (if x.f0 ≤ s then (i : Int) else acc) l
theorem nw_cons (s : Int) (i : Nat) (acc : Int) (x : W) (l : List W) : nw s i acc (x :: l) = nw s (i + 1) (if x.f0 ≤ s then (i : Int) else acc) l := rfl
theorem nw_app (s : Int) (a c : List W) : ∀ (i : Nat) (acc : Int), nw s i acc (a ++ c) = nw s (i + a.length) (nw s i acc a) c := by
 induction a with
 | nil => intro i acc; rfl
 | cons x a ih =>
  intro i acc
  rw [List.cons_append, nw_cons, ih, nw_cons, List.length_cons]
  congr 1
  omega
theorem nw_take {l : List W} {i : Nat} (h : i < l.length) (s : Int) : nw s 0 (-1) (l.take (i + 1)) = if l[i].f0 ≤ s then (i : Int) else nw s 0 (-1) (l.take i) := by
 rw [take_at h, nw_app, List.length_take, Nat.min_eq_left (by omega), nw_cons, Nat.zero_add]
 rfl
theorem newest_l0 {l : List W} (hn : l.length < LM) (s : Int) : ∀ (i k : Nat), i ≤ l.length → i < k → chain_newest.l0 k l s ((i : Int) - 1) = some (nw s 0 (-1) (l.take i)) := by
 have hn' := hn
 unfold LM at hn'
 intro i
 induction i with
 | zero =>
  intro k _ hk
  obtain ⟨k, rfl⟩ := succ_of hk
  simp only [chain_newest.l0]
  rw [if_neg (by omega)]
  rfl
 | succ i ih =>
  intro k hi hk
  obtain ⟨k, rfl⟩ := succ_of hk
  have hlt : i < l.length := by omega
  have hc : (((i + 1 : Nat) : Int) - 1) = (i : Int) := by omega
  simp only [chain_newest.l0]
  rw [hc, if_pos (by omega), if_pos (by omega), if_pos (by omega), rdW hlt, w64p (by omega), ih k (by omega) (by omega), nw_take hlt]
  by_cases h : l[i].f0 ≤ s
  ·
   rw [if_pos h, if_pos h]
  ·
   rw [if_neg h, if_neg h]
theorem newest_eq {l : List W} (hn : l.length < LM) (s : Int) (k : Nat) (hk : l.length < k) : chain_newest.f k l s = some (nw s 0 (-1) l) := by
 have hn' := hn
 unfold LM at hn'
 unfold chain_newest.f
 rw [w64p (by omega), newest_l0 hn s l.length k (Nat.le_refl _) hk, List.take_length]
end Go.Proofs.Ytklhjponikgkkaa.Pure
end
section
namespace Go.Proofs.Ytklhjponikgkkaa.Pure
open Go.RowKit Go.Proofs.Ytklhjponikgkkaa.X Go.Proofs.YtklhjponikgkkaaW.PrintWords Go.Proofs.YtklhjponikgkkaaW.PrintLast Go.Proofs.YtklhjponikgkkaaW.PrintMore Go.Proofs.Ytklhjponikgkkaa.Aid
abbrev C := Int × Int × Bool × Int × Int
def zc : C := (0, 0, false, 0, 0)
def ce (x : S54) : C := (x.f0, x.f1.f0, x.f1.f1, x.f2, x.f3)
def ec (c : C) : S54 := ⟨c.1, ⟨c.2.1, c.2.2.1⟩, c.2.2.2.1, c.2.2.2.2⟩
end Go.Proofs.Ytklhjponikgkkaa.Pure
end
section
namespace Go.Proofs.Ytklhjponikgkkaa.Pure
open Go.RowKit Go.Proofs.Ytklhjponikgkkaa.X Go.Proofs.YtklhjponikgkkaaW.PrintWords Go.Proofs.YtklhjponikgkkaaW.PrintLast Go.Proofs.YtklhjponikgkkaaW.PrintMore Go.Proofs.Ytklhjponikgkkaa.Aid
def atf (s : Int) (c : C) (l : List W) : C := l.foldl (fun c x => if x.f0 ≤ s then ce x.f1 else c) c
theorem atf_cons (s : Int) (c : C) (x : W) (l : List W) : atf s c (x :: l) = atf s (if x.f0 ≤ s then ce x.f1 else c) l := rfl
theorem atf_app (s : Int) (c : C) (a b : List W) : atf s c (a ++ b) = atf s (atf s c a) b := List.foldl_append
theorem atf_snoc (s : Int) (c : C) (a : List W) (x : W) : atf s c (a ++ [x]) = if x.f0 ≤ s then ce x.f1 else atf s c a := by rw [atf_app]; rfl
theorem nw_spec {l : List W} (s : Int) : ∀ (i : Nat), i ≤ l.length → (nw s 0 (-1) (l.take i) = -1 ∧ atf s zc (l.take i) = zc) ∨ (∃ j, ∃ h : j < l.length, nw s 0 (-1) (l.take i) = (j : Int) ∧ atf s zc (l.take i) = ce l[j].f1) := by
 intro i
 induction i with
 | zero => exact fun _ => Or.inl ⟨rfl, rfl⟩
 | succ i ih =>
  intro hi
  have hlt : i < l.length := by omega
  rw [nw_take hlt, take_at hlt, atf_snoc]
  by_cases h : l[i].f0 ≤ s
  ·
   rw [if_pos h, if_pos h]
   exact Or.inr ⟨i, hlt, rfl, rfl⟩
  ·
   rw [if_neg h, if_neg h]
   exact ih (by omega)
theorem at_eq {l : List W} (hn : l.length < LM) (s : Int) (k : Nat) (hk : l.length < k) : chain_At.f k l s = some (atf s zc l) := by
 unfold chain_At.f
 rw [newest_eq hn s k hk]
 simp only [Option.bind_some]
 have h := nw_spec (l := l) s l.length (Nat.le_refl _)
 rw [List.take_length] at h
 rcases h with ⟨h1, h2⟩ | ⟨j, hj, h1, h2⟩
 ·
  rw [h1, h2, if_neg (by omega)]
  rfl
 ·
  rw [h1, h2, if_pos (by omega), if_pos (by omega), if_pos (by omega), rdW hj]
  rfl
end Go.Proofs.Ytklhjponikgkkaa.Pure
end
section
namespace Go.Proofs.Ytklhjponikgkkaa.Pure
open Go.RowKit Go.Proofs.Ytklhjponikgkkaa.X Go.Proofs.YtklhjponikgkkaaW.PrintWords Go.Proofs.YtklhjponikgkkaaW.PrintLast Go.Proofs.YtklhjponikgkkaaW.PrintMore Go.Proofs.Ytklhjponikgkkaa.Aid
abbrev D := S46
theorem rdD {l : List D} {i : Nat} (h : i < l.length) : rd_T46 l (i : Int) = l[i] := getD_at h _
def drp (ds : List D) (w s : Int) : Bool := ds.any fun x => x.f0 == w && decide (x.f1 ≤ s)
end Go.Proofs.Ytklhjponikgkkaa.Pure
end
section
namespace Go.Proofs.Ytklhjponikgkkaa.Pure
open Go.RowKit Go.Proofs.Ytklhjponikgkkaa.X Go.Proofs.YtklhjponikgkkaaW.PrintWords Go.Proofs.YtklhjponikgkkaaW.PrintLast Go.Proofs.YtklhjponikgkkaaW.PrintMore Go.Proofs.Ytklhjponikgkkaa.Aid
abbrev I := S56
theorem rdI {l : List I} {i : Nat} (h : i < l.length) : rd_T56 l (i : Int) = l[i] := getD_at h _
def rdl (s : Int) (ds : List D) : List E → List I
 | [] => []
 | e :: l => if drp ds e.f0 s = true then rdl s ds l else if (atf s zc e.f2).1 < 1 then rdl s ds l else ⟨e.f0, e.f1, ec (atf s zc e.f2)⟩ :: rdl s ds l
theorem rdl_cons (s : Int) (ds : List D) (e : E) (l : List E) : rdl s ds (e :: l) = if drp ds e.f0 s = true then rdl s ds l else if (atf s zc e.f2).1 < 1 then rdl s ds l else ⟨e.f0, e.f1, ec (atf s zc e.f2)⟩ :: rdl s ds l := rfl
theorem rdl_le (s : Int) (ds : List D) : ∀ l : List E, (rdl s ds l).length ≤ l.length
 | [] => Nat.le_refl _
 | e :: l => by
  have := rdl_le s ds l
  rw [rdl_cons]
  split
  ·
   simp only [List.length_cons]; omega
  ·
   split
   ·
    simp only [List.length_cons]; omega
   ·
    simp only [List.length_cons]; omega
end Go.Proofs.Ytklhjponikgkkaa.Pure
end
section
namespace Go.Proofs.Ytklhjponikgkkaa.Pure
open Go.RowKit Go.Proofs.Ytklhjponikgkkaa.X Go.Proofs.YtklhjponikgkkaaW.PrintWords Go.Proofs.YtklhjponikgkkaaW.PrintLast Go.Proofs.YtklhjponikgkkaaW.PrintMore Go.Proofs.Ytklhjponikgkkaa.Aid Go.Proofs.Ytklhjponikgkkaa.St
def tak (w s : Int) : List E → List I
 | [] => []
 | e :: l => if e.f0 = w then (if (atf s zc e.f2).1 < 1 then tak w s l else ⟨w, e.f1, ec (atf s zc e.f2)⟩ :: tak w s l) else tak w s l
theorem tak_cons (w s : Int) (e : E) (l : List E) : tak w s (e :: l) = if e.f0 = w then (if (atf s zc e.f2).1 < 1 then tak w s l else ⟨w, e.f1, ec (atf s zc e.f2)⟩ :: tak w s l) else tak w s l := rfl
theorem tak_app (w s : Int) : ∀ a b : List E, tak w s (a ++ b) = tak w s a ++ tak w s b
 | [], _ => rfl
 | e :: a, b => by
  rw [List.cons_append, tak_cons, tak_cons, tak_app w s a b]
  split
  ·
   split
   ·
    rfl
   ·
    rfl
  ·
   rfl
theorem tak_le (w s : Int) : ∀ l : List E, (tak w s l).length ≤ l.length
 | [] => Nat.le_refl _
 | e :: l => by
  have := tak_le w s l
  rw [tak_cons]
  split
  ·
   split
   ·
    rw [List.length_cons]; omega
   ·
    rw [List.length_cons, List.length_cons]; omega
  ·
   rw [List.length_cons]; omega
theorem take_l0 {l : List E} (hn : l.length ≤ 240) (hv : ∀ e ∈ l, e.f2.length ≤ 100) (w s : Int) (d : Nat) : ∀ (i k : Nat) (acc : List I), i + d = l.length → d + 110 < k → acc.length ≤ i →
 emit_Take.l0 k w s l (l.length : Int) (i : Int) w s acc = some (w, s, isort lessT keyT (acc ++ tak w s (l.drop i))) := by
 induction d with
 | zero =>
  intro i k acc hi hk ha
  obtain ⟨k, rfl⟩ := succ_of (show 0 < k by omega)
  simp only [emit_Take.l0]
  unfold api_Item_with_34_33.f
  rw [if_neg (by omega), List.drop_of_length_le (by omega), tak, List.append_nil, if_pos (by omega)]
  rfl
 | succ d ih =>
  intro i k acc hi hk ha
  obtain ⟨k, rfl⟩ := succ_of (show 0 < k by omega)
  have hlt : i < l.length := by omega
  have hvi := hv _ (List.getElem_mem hlt)
  have h1 := ih (i + 1) k (acc ++ [⟨w, l[i].f1, ec (atf s zc l[i].f2)⟩]) (by omega) (by omega) (by rw [List.length_append, List.length_singleton]; omega)
  rw [List.append_assoc, List.singleton_append] at h1
  simp only [emit_Take.l0]
  rw [if_pos (by omega), if_pos (by omega), if_pos (by omega), rdE hlt, drop_at hlt, tak_cons, w64s (by omega), ih (i + 1) k acc (by omega) (by omega) (by omega), at_eq (l := l[i].f2) (by unfold LM; omega) s k (by omega)]
  simp only [Option.bind_some]
  by_cases c1 : l[i].f0 = w
  ·
   rw [if_pos c1, if_pos c1]
   unfold cell_Empty.f
   simp only [Option.bind_some]
   by_cases c2 : (atf s zc l[i].f2).1 < 1
   ·
    rw [if_pos (decide_eq_true c2), if_pos c2]
   ·
    rw [if_neg (by rw [decide_eq_true_eq]; exact c2), if_neg c2, if_pos (by omega)]
    exact h1
  ·
   rw [if_neg c1, if_neg c1]
def tken (w s : Int) (l : List Sh) : List I := isort lessT keyT (tak w s (ents l))
theorem take_eq {l : List Sh} (h : few l) (w s : Int) (k : Nat) (hk : 400 < k) : emit_Take.f k w s l = some (w, s, tken w s l) := by
 have h1 := few_ents h
 unfold emit_Take.f
 rw [entries_eq h k (by omega)]
 simp only [Option.bind_some]
 have := take_l0 (by omega) (few_vers h) w s (ents l).length 0 k [] (by omega) (by omega) (by simp)
 rw [List.nil_append, List.drop_zero] at this
 exact this
theorem tken_len (w s : Int) (l : List Sh) : (tken w s l).length = (tak w s (ents l)).length := isort_len _
theorem tken_mem {w s : Int} {l : List Sh} {x : I} (h : x ∈ tak w s (ents l)) : x ∈ tken w s l := (isort_same ordT _).symm.mem h
end Go.Proofs.Ytklhjponikgkkaa.Pure
end
section
namespace Go.Proofs.Ytklhjponikgkkaa.Pure
open Go.RowKit Go.Proofs.Ytklhjponikgkkaa.X Go.Proofs.YtklhjponikgkkaaW.PrintWords Go.Proofs.YtklhjponikgkkaaW.PrintLast Go.Proofs.YtklhjponikgkkaaW.PrintMore Go.Proofs.Ytklhjponikgkkaa.Aid
theorem rat_l0 {l : List W} (hn : l.length < LM) (s : Int) (d : Nat) : ∀ (i k : Nat) (c : C), i + d = l.length → d < k →
 r10_At.l0 k l s (i : Int) c.1 c.2.1 c.2.2.1 c.2.2.2.1 c.2.2.2.2 = some (atf s c (l.drop i)) := by
 have hn' := hn
 unfold LM at hn'
 induction d with
 | zero =>
  intro i k c hi hk
  obtain ⟨k, rfl⟩ := succ_of hk
  simp only [r10_At.l0]
  rw [if_neg (by omega), List.drop_of_length_le (by omega)]
  rfl
 | succ d ih =>
  intro i k c hi hk
  obtain ⟨k, rfl⟩ := succ_of hk
  have hlt : i < l.length := by omega
  simp only [r10_At.l0]
  rw [if_pos (by omega), if_pos (by omega), rdW hlt, drop_at hlt, w64s (by omega), atf_cons, ih (i + 1) k c (by omega) (by omega)]
  by_cases h : l[i].f0 ≤ s
  ·
   rw [if_pos h, if_pos h]
   exact ih (i + 1) k (ce l[i].f1) (by omega) (by omega)
  ·
   rw [if_neg h, if_neg h]
theorem rat_eq {l : List W} (hn : l.length < LM) (s : Int) (k : Nat) (hk : l.length < k) : r10_At.f k l s = some (atf s zc l) :=
 rat_l0 hn s l.length 0 k zc (by omega) hk
end Go.Proofs.Ytklhjponikgkkaa.Pure
end
section
namespace Go.Proofs.Ytklhjponikgkkaa.Pure
open Go.RowKit Go.Proofs.Ytklhjponikgkkaa.X Go.Proofs.YtklhjponikgkkaaW.PrintWords Go.Proofs.YtklhjponikgkkaaW.PrintLast Go.Proofs.YtklhjponikgkkaaW.PrintMore Go.Proofs.Ytklhjponikgkkaa.Aid
theorem rdrop_l0 {ds : List D} (hn : ds.length < LM) (w s : Int) (d : Nat) : ∀ (i k : Nat), i + d = ds.length → d < k → r11_Dropped.l0 k ds w s (i : Int) = some (drp (ds.drop i) w s) := by
 unfold LM at hn
 induction d with
 | zero =>
  intro i k hi hk
  obtain ⟨k, rfl⟩ := succ_of hk
  simp only [r11_Dropped.l0]
  rw [if_neg (by omega), List.drop_of_length_le (by omega)]
  rfl
 | succ d ih =>
  intro i k hi hk
  obtain ⟨k, rfl⟩ := succ_of hk
  have hlt : i < ds.length := by omega
  simp only [r11_Dropped.l0]
  rw [if_pos (by omega), if_pos (by omega), rdD hlt, drop_at hlt, w64s (by omega), ih (i + 1) k (by omega) (by omega)]
  unfold drp
  rw [List.any_cons]
  by_cases c1 : ds[i].f0 = w
  ·
   rw [if_pos c1, beq_iff_eq.2 c1]
   by_cases c2 : ds[i].f1 ≤ s
   ·
    rw [if_pos c2, decide_eq_true c2]
    rfl
   ·
    rw [if_neg c2, decide_eq_false c2]
    rfl
  ·
   rw [if_neg c1, beq_eq_false_iff_ne.2 c1]
   rfl
theorem rdrop_eq {ds : List D} (hn : ds.length < LM) (w s : Int) (k : Nat) (hk : ds.length < k) : r11_Dropped.f k ds w s = some (drp ds w s) := rdrop_l0 hn w s ds.length 0 k (by omega) hk
end Go.Proofs.Ytklhjponikgkkaa.Pure
end
section
namespace Go.Proofs.Ytklhjponikgkkaa.Pure
open Go.RowKit Go.Proofs.Ytklhjponikgkkaa.X Go.Proofs.YtklhjponikgkkaaW.PrintWords Go.Proofs.YtklhjponikgkkaaW.PrintLast Go.Proofs.YtklhjponikgkkaaW.PrintMore Go.Proofs.Ytklhjponikgkkaa.Aid
theorem rread_l0 {l : List E} (hl : small1 l) (s : Int) {ds : List D} (hd : ds.length < LM) (d : Nat) : ∀ (i k : Nat) (acc : List I), i + d = l.length → d + 102 + ds.length < k → acc.length ≤ i →
 r11_Read.l0 k s ds acc (i : Int) l = some (acc ++ rdl s ds (l.drop i)) := by
 have hn := hl.1
 induction d with
 | zero =>
  intro i k acc hi hk _
  obtain ⟨k, rfl⟩ := succ_of hk
  simp only [r11_Read.l0]
  rw [if_neg (by omega), List.drop_of_length_le (by omega), rdl, List.append_nil]
 | succ d ih =>
  intro i k acc hi hk ha
  obtain ⟨k, rfl⟩ := succ_of hk
  have hlt : i < l.length := by omega
  have hs := small1_at hl hlt
  have h1 := ih (i + 1) k (acc ++ [⟨l[i].f0, l[i].f1, ec (atf s zc l[i].f2)⟩]) (by omega) (by omega) (by rw [List.length_append, List.length_singleton]; omega)
  rw [List.append_assoc, List.singleton_append] at h1
  simp only [r11_Read.l0]
  rw [if_pos (by omega), if_pos (by omega), rdE hlt, drop_at hlt, w64s (by omega), rdl_cons, ih (i + 1) k acc (by omega) (by omega) (by omega), rat_eq (l := l[i].f2) (by unfold LM; omega) s k (by omega), rdrop_eq hd l[i].f0 s k (by omega)]
  simp only [Option.bind_some]
  by_cases c2 : (atf s zc l[i].f2).1 < 1
  ·
   rw [if_neg (by omega)]
   by_cases c1 : drp ds l[i].f0 s = true
   ·
    rw [if_pos c1]
   ·
    rw [if_neg c1, if_pos c2]
  ·
   rw [if_pos (by omega)]
   by_cases c1 : drp ds l[i].f0 s = true
   ·
    rw [if_pos c1, if_pos c1]
   ·
    rw [if_neg c1, if_neg c1, if_neg c2, if_pos (show acc.length < 2199023255552 by omega)]
    exact h1
theorem rread_eq {l : List E} (hl : small1 l) (s : Int) {ds : List D} (hd : ds.length < LM) (k : Nat) (hk : l.length + 102 + ds.length < k) : r11_Read.f k l s ds = some (rdl s ds l) := by
 have h := rread_l0 hl s hd l.length 0 k [] (by omega) hk (Nat.zero_le _)
 rw [List.nil_append, List.drop_zero] at h
 exact h
end Go.Proofs.Ytklhjponikgkkaa.Pure
end
section
namespace Go.Proofs.Ytklhjponikgkkaa.Pure
open Go.RowKit Go.Proofs.Ytklhjponikgkkaa.X Go.Proofs.YtklhjponikgkkaaW.PrintWords Go.Proofs.YtklhjponikgkkaaW.PrintLast Go.Proofs.YtklhjponikgkkaaW.PrintMore Go.Proofs.Ytklhjponikgkkaa.Aid Go.Proofs.Ytklhjponikgkkaa.St
set_option linter.unusedVariables false
theorem alive_eq (k : Nat) (hk : 200 ≤ k) : w17_alive.f k = some true :=
 at_rounds (g := fun k => w17_alive.f k) w17_alive.mono hk (by decide +kernel)
theorem drp_nil (w s : Int) : drp [] w s = false := rfl
theorem rdl_tak (w s : Int) : ∀ l : List E, (rdl s [] l).filter (fun x => x.f0 = w) = tak w s l
 | [] => rfl
 | e :: l => by
  rw [rdl_cons, drp_nil, if_neg (by decide), tak_cons]
  by_cases c : (atf s zc e.f2).1 < 1
  ·
   rw [if_pos c, if_pos c, rdl_tak w s l]
   split <;> rfl
  ·
   rw [if_neg c, if_neg c]
   by_cases c2 : e.f0 = w
   ·
    rw [List.filter_cons_of_pos (by simp [c2]), if_pos c2, rdl_tak w s l, c2]
   ·
    rw [List.filter_cons_of_neg (by simp [c2]), if_neg c2, rdl_tak w s l]
theorem same_iff (a b : I) : (a.f0 == b.f0 && (a.f1.toList == b.f1.toList && ((a.f2.f0 == b.f2.f0 && ((a.f2.f1.f0 == b.f2.f1.f0 && (a.f2.f1.f1 == b.f2.f1.f1)) && ((a.f2.f2 == b.f2.f2) && (a.f2.f3 == b.f2.f3)))))) ) = true ↔ a = b := by
 obtain ⟨a0, ⟨a1⟩, ⟨a2, ⟨a3, a4⟩, a5, a6⟩⟩ := a
 obtain ⟨b0, ⟨b1⟩, ⟨b2, ⟨b3, b4⟩, b5, b6⟩⟩ := b
 simp only [Bool.and_eq_true, beq_iff_eq]
 constructor
 ·
  rintro ⟨rfl, h1, rfl, ⟨rfl, rfl⟩, rfl, rfl⟩
  have h2 : a1 = b1 := by
   have e1 := ByteArray.toList_eq (⟨a1⟩ : ByteArray)
   have e2 := ByteArray.toList_eq (⟨b1⟩ : ByteArray)
   rw [e1, e2] at h1
   exact Array.toList_inj.1 h1
  rw [h2]
 ·
  intro h
  injection h with h0 h1 h2
  injection h1 with h1
  injection h2 with h3 h4 h5 h6
  injection h4 with h7 h8
  subst h0 h1 h3 h5 h6 h7 h8
  exact ⟨rfl, rfl, rfl, ⟨rfl, rfl⟩, rfl, rfl⟩
variable {w s : Int} {l : List Sh} {R : List I}
theorem find_l2 (hR : R.length ≤ 1000) {n : Int} {j : Int} {t : List I} {q : Nat} (hq : q < t.length) (ht : t.length ≤ 1000) {r : Option Bool} (K : Nat) (hnext : ∀ k, K ≤ k → w17_EmitReads.l1 k w s l n j t ((q + 1 : Nat) : Int) w s R = r) (d : Nat) :
 ∀ (i k : Nat) (b : Bool), i + d = R.length → d + K < k → (b = true ∨ t[q] ∈ R.drop i) → w17_EmitReads.l2 k w s l n j t (q : Int) b (i : Int) w s R = r := by
 induction d with
 | zero =>
  intro i k b hi hk hb
  obtain ⟨k, rfl⟩ := succ_of (show 0 < k by omega)
  have hb2 : b = true := by
   rcases hb with h | h
   ·
    exact h
   ·
    rw [List.drop_of_length_le (by omega)] at h
    exact absurd h (by simp)
  simp only [w17_EmitReads.l2]
  rw [if_neg (by omega), if_pos hb2, w64s (by omega)]
  exact hnext k (by omega)
 | succ d ih =>
  intro i k b hi hk hb
  obtain ⟨k, rfl⟩ := succ_of (show 0 < k by omega)
  have hlt : i < R.length := by omega
  simp only [w17_EmitReads.l2]
  rw [if_pos (by omega), w64s (by omega)]
  by_cases c : b = true
  ·
   rw [if_pos c]
   exact ih (i + 1) k true (by omega) (by omega) (.inl rfl)
  ·
   rw [if_neg c, if_pos (by omega), if_pos (by omega), if_pos (by omega), rdI hlt, rdI hq]
   refine ih (i + 1) k _ (by omega) (by omega) ?_
   rw [drop_at hlt] at hb
   rcases hb with h | h
   ·
    exact absurd h c
   ·
    rcases List.mem_cons.1 h with e | e
    ·
     exact .inl ((same_iff _ _).2 e.symm)
    ·
     exact .inr e
theorem read_l1 (hR : R.length ≤ 1000) {j : Int} {t : List I} (ht : t.length ≤ 1000) (hin : ∀ x ∈ t, x.f0 = w → x ∈ R) {r : Option Bool} {N : Nat} (hN : N ≤ 100000) (K : Nat) (hnext : ∀ k, K ≤ k → w17_EmitReads.l0 k w s l ((N : Nat) : Int) (wrap64 (j + 1)) w s R = r) (d : Nat) :
 ∀ (i k n : Nat), i + d = t.length → d * (R.length + 2) + K < k → n + ((t.drop i).filter (fun x => x.f0 = w)).length = N → w17_EmitReads.l1 k w s l (n : Int) j t (i : Int) w s R = r := by
 induction d with
 | zero =>
  intro i k n hi hk hn
  obtain ⟨k, rfl⟩ := succ_of (show 0 < k by omega)
  rw [List.drop_of_length_le (by omega)] at hn
  simp only [List.filter_nil, List.length_nil, Nat.add_zero] at hn
  subst hn
  simp only [w17_EmitReads.l1]
  rw [if_neg (by omega)]
  exact hnext k (by omega)
 | succ d ih =>
  intro i k n hi hk hn
  rw [Nat.succ_mul] at hk
  obtain ⟨k, rfl⟩ := succ_of (show 0 < k by omega)
  have hlt : i < t.length := by omega
  rw [drop_at hlt] at hn
  simp only [w17_EmitReads.l1]
  rw [if_pos (by omega), if_pos (by omega), rdI hlt]
  by_cases c : t[i].f0 = w
  ·
   rw [List.filter_cons_of_pos (by simp [c]), List.length_cons] at hn
   rw [if_pos c, w64s (by omega)]
   have h := find_l2 (s := s) (l := l) hR (n := ((n + 1 : Nat) : Int)) (j := j) hlt ht (r := r) (d * (R.length + 2) + K + 1) (fun k2 hk2 => ih (i + 1) k2 (n + 1) (by omega) (by omega) (by omega)) R.length 0 k false (by omega) (by omega) (.inr (by rw [List.drop_zero]; exact hin _ (List.getElem_mem hlt) c))
   exact h
  ·
   rw [List.filter_cons_of_neg (by simp [c])] at hn
   rw [if_neg c, w64s (by omega)]
   exact ih (i + 1) k n (by omega) (by omega) hn
theorem last_l3 (hR : R.length ≤ 1000) (hs : Sorted keyT lessT R) (d : Nat) : ∀ (i k : Nat), 1 ≤ i → (i + d = R.length ∨ (d = 0 ∧ R.length ≤ i)) → d < k → w17_EmitReads.l3 k w s ((R.length : Nat) : Int) (i : Int) w s R = some true := by
 induction d with
 | zero =>
  intro i k h1 hi hk
  obtain ⟨k, rfl⟩ := succ_of (show 0 < k by omega)
  simp only [w17_EmitReads.l3]
  rw [if_neg (by omega), if_pos trivial, if_pos trivial, beq_self_eq_true]
 | succ d ih =>
  intro i k h1 hi hk
  obtain ⟨k, rfl⟩ := succ_of (show 0 < k by omega)
  obtain ⟨i, rfl⟩ : ∃ p, i = p + 1 := ⟨i - 1, by omega⟩
  have hlt : i + 1 < R.length := by omega
  have hlt0 : i < R.length := by omega
  have e : wrap64 (((i + 1 : Nat) : Int) - 1) = (i : Int) := by unfold wrap64; omega
  simp only [w17_EmitReads.l3]
  rw [if_pos (by omega), e, if_pos (by omega), if_pos (by omega), if_pos (by omega), rdI hlt, rdI hlt0, w64s (by omega)]
  have hp := List.pairwise_iff_getElem.1 hs i (i + 1) hlt0 hlt (by omega)
  have hp2 : Op.bytesLess (R[i + 1].f1.toList) (R[i].f1.toList) = false := by
   rw [ByteArray.toList_eq, ByteArray.toList_eq]
   exact hp
  rw [hp2, if_neg (by decide)]
  exact ih (i + 1 + 1) k (by omega) (by omega) (by omega)
set_option maxRecDepth 100000 in
theorem shards_l0 (h : few l) (B : Nat) (hB : 50000 ≤ B) (d : Nat) : ∀ (i k n : Nat), i + d = l.length → d * B + 2000 < k → n + (tak w s (ents (l.drop i))).length = (tken w s l).length →
 w17_EmitReads.l0 k w s l (n : Int) (i : Int) w s (tken w s l) = some true := by
 have hn := h.1
 have he := few_ents h
 have hl := tken_len w s l
 have hle := tak_le w s (ents l)
 induction d with
 | zero =>
  intro i k n hi hk hc
  obtain ⟨k, rfl⟩ := succ_of (show 0 < k by omega)
  rw [List.drop_of_length_le (by omega)] at hc
  have hc2 : n = (tken w s l).length := hc
  subst hc2
  simp only [w17_EmitReads.l0]
  rw [if_neg (by omega)]
  exact last_l3 (R := tken w s l) (by omega) (show Sorted keyT lessT (tken w s l) from isort_sorted ordT _) ((tken w s l).length - 1) 1 k (by omega) (by omega) (by omega)
 | succ d ih =>
  intro i k n hi hk hc
  rw [Nat.succ_mul] at hk
  obtain ⟨k, rfl⟩ := succ_of (show 0 < k by omega)
  have hlt : i < l.length := by omega
  have hsm := h.2 _ (List.getElem_mem hlt)
  have hrl := rdl_le s [] l[i].f0
  rw [drop_at hlt, ents_cons, tak_app, List.length_append] at hc
  have hft := rdl_tak w s l[i].f0
  simp only [w17_EmitReads.l0]
  rw [if_pos (by omega), if_pos (by omega), rdS hlt, rread_eq hsm.2.one s (ds := []) (by unfold LM; simp) k (by simp only [List.length_nil]; omega), Option.bind_some]
  refine read_l1 (R := tken w s l) (by omega) (by omega) (fun x hx hw => tken_mem ?_) (N := n + (tak w s l[i].f0).length) (by omega) (d * B + 2001) (fun k2 hk2 => ?_) (rdl s [] l[i].f0).length 0 k n (by omega) ?_ (by rw [List.drop_zero, hft])
  ·
   have hx2 : x ∈ tak w s l[i].f0 := by rw [← hft]; exact List.mem_filter.2 ⟨hx, by simp [hw]⟩
   have hm : ents l = ents (l.take i) ++ (l[i].f0 ++ ents (l.drop (i + 1))) := by
    rw [← ents_cons, ← drop_at hlt]
    unfold ents
    rw [← List.flatten_append, ← List.map_append, List.take_append_drop]
   rw [hm, tak_app, tak_app]
   exact List.mem_append_right _ (List.mem_append_left _ hx2)
  ·
   rw [w64s (by omega)]
   exact ih (i + 1) k2 _ (by omega) (by omega) (by omega)
  ·
   have h2 : (rdl s [] l[i].f0).length ≤ 100 := by omega
   have h3 : (tken w s l).length + 2 ≤ 300 := by omega
   have h1 : (rdl s [] l[i].f0).length * ((tken w s l).length + 2) ≤ 30000 := Nat.mul_le_mul h2 h3
   generalize (rdl s [] l[i].f0).length * ((tken w s l).length + 2) = X at h1 ⊢
   generalize d * B = Y at hk ⊢
   clear h2 h3 hc hft hrl ih
   omega
theorem EmitReads : w17_EmitReads.Pure := by
 intro w s l _ _ _ _
 obtain ⟨B, hB⟩ : ∃ B : Nat, 50000 ≤ B := ⟨_, Nat.le_refl _⟩
 obtain ⟨K, hK⟩ : ∃ K : Nat, 8 * B + 3000 ≤ K := ⟨_, Nat.le_refl _⟩
 refine ⟨K, ?_⟩
 unfold w17_EmitReads.f
 rw [alive_eq _ (by omega), Option.bind_some, if_pos rfl]
 rcases hgreat_eq l K (by omega) with h | ⟨h, hf⟩
 ·
  rw [h, Option.bind_some, if_pos rfl]
 ·
  rw [h, Option.bind_some, if_neg (by decide), take_eq hf w s K (by omega), Option.bind_some]
  have hn := hf.1
  have hm := Nat.mul_le_mul_right B hn
  exact shards_l0 hf B hB l.length 0 K 0 (by omega) (by omega) (by rw [List.drop_zero, tken_len]; omega)
end Go.Proofs.Ytklhjponikgkkaa.Pure
end
