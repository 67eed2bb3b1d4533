/- Plain facts on what the printed functions compute, joined; each says its conditions. -/
import Derived.Test.YtgcbejidponoaaaGreatDoorM16
import Derived.Test.YtgcbejidponoaaaGreatDoorM7
import Derived.Test.YtgcbejidponoaaaGreatDoorM15
import Derived.Test.YtgcbejidponoaaaGreatDoorM13
import Derived.Test.YtgcbejidponoaaaGreatDoorM11
import Derived.Test.YtgcbejidponoaaaGreatDoorM14
section
namespace Go.Proofs.YtgcbejidponoaaaGreatDoor.Pure
open Go.RowKit Go.Proofs.YtgcbejidponoaaaGreatDoor.X Go.Proofs.YtgcbejidponoaaaGreatDoorW.PrintWords Go.Proofs.YtgcbejidponoaaaGreatDoorW.PrintLast Go.Proofs.YtgcbejidponoaaaGreatDoorW.PrintMore Go.Proofs.YtgcbejidponoaaaGreatDoor.Aid Go.Proofs.YtgcbejidponoaaaGreatDoor.Bytes
theorem ch_ne (x y : Ch) : (((!(x.f0.f0 == y.f0.f0) || (!(x.f0.f1.toList == y.f0.f1.toList) || (!(x.f0.f2.f0 == y.f0.f2.f0) || !(x.f0.f2.f1 == y.f0.f2.f1)))) || !(x.f1 == y.f1)) = true) ↔ x ≠ y := by
 rw [Bool.or_eq_true, rw_ne, Bool.not_eq_true', beq_eq_false_iff_ne]
 obtain ⟨a, p⟩ := x
 obtain ⟨b, q⟩ := y
 simp only [ne_eq, S48.mk.injEq]
 by_cases h1 : a = b <;> by_cases h2 : p = q <;> simp [h1, h2]
noncomputable instance : DecidableEq Ch := Classical.typeDecidableEq _
theorem sameC_l0 {a b : List Ch} (hn : a.length < 100000) (he : a.length = b.length) (d : Nat) : ∀ (i k : Nat), i + d = a.length → d < k →
 ebbtideref09_Same.l0 k a b (i : Int) = some (decide (a.drop i = b.drop i)) ∧ api_Change.l0 k a b (a.length : Int) (i : Int) = some (decide (a.drop i = b.drop i)) := by
 induction d with
 | zero =>
  intro i k hi hk
  obtain ⟨k, rfl⟩ := succ_of hk
  simp only [ebbtideref09_Same.l0, api_Change.l0]
  rw [if_neg (by omega), if_neg (by omega), List.drop_of_length_le (by omega), List.drop_of_length_le (by omega)]
  simp
 | succ d ih =>
  intro i k hi hk
  obtain ⟨k, rfl⟩ := succ_of hk
  have hlt : i < a.length := by omega
  have hlb : i < b.length := by omega
  obtain ⟨i1, i2⟩ := ih (i + 1) k (by omega) (by omega)
  rw [drop_at hlt, drop_at hlb]
  have c1 : (i : Int) < (a.length : Int) := by omega
  have c2 : (i : Int) < (b.length : Int) := by omega
  have c0 : 0 ≤ (i : Int) := by omega
  by_cases h : a[i] = b[i]
  ·
   have hc := mt (ch_ne a[i] b[i]).mp (fun hne => hne h)
   have e : decide (a[i] :: a.drop (i + 1) = b[i] :: b.drop (i + 1)) = decide (a.drop (i + 1) = b.drop (i + 1)) := decide_eq_decide.mpr ⟨fun e => (List.cons.inj e).2, fun e => by rw [e, h]⟩
   rw [e]
   refine ⟨?_, ?_⟩
   ·
    simp only [ebbtideref09_Same.l0]
    rw [if_pos c1, if_pos c0, if_pos c2, rdC hlt, rdC hlb, if_neg hc, w64s (by omega), i1]
   ·
    simp only [api_Change.l0]
    rw [if_pos c1, if_pos c0, if_pos c1, if_pos c2, rdC hlt, rdC hlb, if_neg hc, w64s (by omega), i2]
  ·
   have hc := (ch_ne a[i] b[i]).mpr h
   have e : decide (a[i] :: a.drop (i + 1) = b[i] :: b.drop (i + 1)) = false := decide_eq_false (fun e => h (List.cons.inj e).1)
   rw [e]
   refine ⟨?_, ?_⟩
   ·
    simp only [ebbtideref09_Same.l0]
    rw [if_pos c1, if_pos c0, if_pos c2, rdC hlt, rdC hlb, if_pos hc]
   ·
    simp only [api_Change.l0]
    rw [if_pos c1, if_pos c0, if_pos c1, if_pos c2, rdC hlt, rdC hlb, if_pos hc]
theorem sameC_eq {a b : List Ch} (hn : a.length < 100000) {k : Nat} (hk : a.length < k) : ebbtideref09_Same.f k a b = some (decide (a = b)) ∧ diff_Same.f k a b = some (decide (a = b)) := by
 unfold ebbtideref09_Same.f diff_Same.f api_Change.f
 by_cases h : a.length = b.length
 ·
  have := sameC_l0 hn h a.length 0 k (by omega) hk
  rw [if_pos (by omega), if_pos (by omega)]
  refine ⟨this.1, ?_⟩
  have h2 := this.2
  rw [List.drop_zero, List.drop_zero] at h2
  rw [show (0 : Int) = ((0 : Nat) : Int) from rfl, h2]
  rfl
 ·
  have e : decide (a = b) = false := decide_eq_false (fun e => h (by rw [e]))
  rw [if_neg (by omega), if_neg (by omega), e]
  exact ⟨rfl, rfl⟩
theorem sameR_l0 {a b : List Rw} (hn : a.length < 100000) (he : a.length = b.length) (d : Nat) : ∀ (i k : Nat), i + d = a.length → d < k → ebbtideref08_Same.l0 k a b (i : Int) = some (decide (a.drop i = b.drop i)) := by
 induction d with
 | zero =>
  intro i k hi hk
  obtain ⟨k, rfl⟩ := succ_of hk
  simp only [ebbtideref08_Same.l0]
  rw [if_neg (by omega), List.drop_of_length_le (by omega), List.drop_of_length_le (by omega)]
  simp
 | succ d ih =>
  intro i k hi hk
  obtain ⟨k, rfl⟩ := succ_of hk
  have hlt : i < a.length := by omega
  have hlb : i < b.length := by omega
  have i1 := ih (i + 1) k (by omega) (by omega)
  simp only [ebbtideref08_Same.l0]
  rw [drop_at hlt, drop_at hlb, if_pos (by omega), if_pos (by omega), if_pos (by omega), rdR hlt, rdR hlb]
  by_cases h : a[i] = b[i]
  ·
   rw [if_neg (mt (rw_ne a[i] b[i]).mp (fun hne => hne h)), w64s (by omega), i1]
   exact congrArg some (decide_eq_decide.mpr ⟨fun e => by rw [e, h], fun e => (List.cons.inj e).2⟩)
  ·
   rw [if_pos ((rw_ne a[i] b[i]).mpr h)]
   exact congrArg some (decide_eq_false (fun e => h (List.cons.inj e).1)).symm
theorem sameR_eq {a b : List Rw} (hn : a.length < 100000) {k : Nat} (hk : a.length < k) : ebbtideref08_Same.f k a b = some (decide (a = b)) := by
 unfold ebbtideref08_Same.f
 by_cases h : a.length = b.length
 ·
  rw [if_pos (by omega)]
  exact sameR_l0 hn h a.length 0 k (by omega) hk
 ·
  rw [if_neg (by omega)]
  exact congrArg some (decide_eq_false (fun e => h (by rw [e]))).symm
theorem rgreat_l0 {l : List Rw} (hl : l.length ≤ 100000) (d : Nat) : ∀ (i k : Nat), i + d = l.length → d < k → ∃ r, ebbtideref08_Great.l0 k l (i : Int) = some r ∧ (r = false → ∀ x ∈ l.drop i, x.f1.size ≤ 300) := by
 induction d with
 | zero =>
  intro i k hi hk
  obtain ⟨k, rfl⟩ := succ_of hk
  simp only [ebbtideref08_Great.l0]
  rw [if_neg (by omega), List.drop_of_length_le (by omega)]
  exact ⟨_, rfl, fun _ x hx => absurd hx (by simp)⟩
 | succ d ih =>
  intro i k hi hk
  obtain ⟨k, rfl⟩ := succ_of hk
  have hlt : i < l.length := by omega
  simp only [ebbtideref08_Great.l0]
  rw [if_pos (by omega), if_pos (by omega), w64s (by omega), rdR hlt]
  obtain ⟨r, hr, h2⟩ := ih (i + 1) k (by omega) (by omega)
  rw [hr]
  by_cases h : (l[i].f1.size : Int) > 300
  ·
   rw [if_pos h]
   exact ⟨_, rfl, fun e => by cases e⟩
  ·
   rw [if_neg h]
   refine ⟨r, rfl, fun e x hx => ?_⟩
   rw [drop_at hlt, List.mem_cons] at hx
   rcases hx with rfl | hx
   ·
    omega
   ·
    exact h2 e x hx
def Fine (l : List Rw) : Prop := l.length ≤ 100 ∧ ∀ x ∈ l, GRow x ∧ x.f1.size ≤ 300
theorem rgreat_eq (l : List Rw) (hq : ∀ x ∈ l, Q45 x) {k : Nat} (hk : 110 ≤ k) : ebbtideref08_Great.f k l = some true ∨ (ebbtideref08_Great.f k l = some false ∧ Fine l) := by
 unfold ebbtideref08_Great.f
 by_cases h : (l.length : Int) > 100
 ·
  rw [if_pos h]
  exact .inl rfl
 ·
  rw [if_neg h]
  obtain ⟨r, h1, h2⟩ := rgreat_l0 (l := l) (by omega) l.length 0 k (by omega) (by omega)
  cases r
  ·
   refine .inr ⟨h1, by omega, fun x hx => ?_⟩
   have h3 := h2 rfl x hx
   have h4 := hq x hx
   exact ⟨⟨wf64 h4.1, by omega, wf64 h4.2.2.1⟩, h3⟩
  ·
   exact .inl h1
theorem fine_sh {l : List Rw} (h : Fine l) : ShR l := fun x hx => by have := (h.2 x hx).2; omega
def chT (c : Ch) : T := if c.f1 = true then [33] ++ (Lib.itoa c.f0.f0 ++ [124] ++ bl c.f0.f1) else rowT c.f0
def chsT (l : List Ch) : T := if l = [] then [45] else Lib.join (l.map chT) [59]
def GCh (l : List Ch) : Prop := l.length ≤ 1000 ∧ ∀ c ∈ l, GRow c.f0
theorem chT_len {c : Ch} (h : GRow c.f0) : (chT c).length ≤ 1300 := by
 have h1 := rowT_len h
 have h0 := itoa_len h.1
 have h2 := h.2.1
 have h3 := bl_len c.f0.f1
 unfold chT
 split
 ·
  simp only [List.length_append, List.length_singleton]
  omega
 ·
  exact h1
theorem chs_tot {l : List Ch} (h : GCh l) : tot (l.map chT) ≤ 1300000 := by
 have h1 := tot_le 1300 (l.map chT) (fun x hx => by
  obtain ⟨y, hy, rfl⟩ := List.mem_map.mp hx
  exact chT_len (h.2 y hy))
 rw [List.length_map] at h1
 have := h.1
 omega
theorem one_row {x : Rw} (h : GRow x) {k : Nat} (hk : 2200 ≤ k) : row_Text.f k [x] = some (mk (rowT x)) ∧ ebbtideref08_Text.f k [x] = some (mk (rowT x)) := by
 have g : GRows [x] := ⟨by simp, fun y hy => by rw [List.mem_singleton] at hy; rw [hy]; exact h⟩
 have e : rowsT [x] = rowT x := by
  unfold rowsT
  rw [if_neg (by simp), List.map_cons, List.map_nil, Lib.join_one]
 have a := rows_eq g (k := k) (by omega)
 have b := rrows_eq g (k := k) (by omega)
 rw [e] at a b
 exact ⟨a, b⟩
theorem num_grp {x : Rw} (h : GRow x) : word_Join.f (⟨#[124]⟩ : ByteArray) [mk (Lib.itoa x.f0), x.f1] = some (mk (Lib.itoa x.f0 ++ [124] ++ bl x.f1)) := by
 have h0 := itoa_len h.1
 have h1 := h.2.1
 have h2 := bl_len x.f1
 have := join_eq (L := [Lib.itoa x.f0, bl x.f1]) (s := [124]) (by simp) (by rw [join2]; simp only [List.length_append, List.length_singleton]; omega)
 rw [join2, List.map_cons, List.map_cons, bl_eta] at this
 exact this
theorem ctext_l0 {l : List Ch} (h : GCh l) (d : Nat) : ∀ (i k : Nat), i + d = l.length → d + 2300 < k →
 diff_Text.l0 k ((l.take i).map fun x => mk (chT x)) l (l.length : Int) (i : Int) = some (mk (Lib.join (l.map chT) [59])) := by
 have hl := h.1
 induction d with
 | zero =>
  intro i k hi hk
  obtain ⟨k, rfl⟩ := succ_of (show 0 < k by omega)
  have hj := join_len [59] (l.map chT)
  have ht := chs_tot h
  rw [List.length_map, List.length_singleton] at hj
  have e := join_eq (L := l.map chT) (s := [59]) (by rw [List.length_map]; omega) (by omega)
  rw [List.map_map] at e
  simp only [diff_Text.l0]
  rw [if_neg (by omega), List.take_of_length_le (by omega)]
  have e2 : word_Join.f (⟨#[59]⟩ : ByteArray) (l.map fun x => mk (chT x)) = some (mk (Lib.join (l.map chT) [59])) := e
  rw [e2, Option.bind_some]
 | succ d ih =>
  intro i k hi hk
  obtain ⟨k, rfl⟩ := succ_of (show 0 < k by omega)
  have hlt : i < l.length := by omega
  have hx := h.2 _ (List.getElem_mem hlt)
  have e2 : ((l.take i).map fun x => mk (chT x)) ++ [mk (chT l[i])] = (l.take (i + 1)).map fun x => mk (chT x) := by rw [take_at hlt, List.map_append]; rfl
  have hlen : ((l.take i).map fun x => mk (chT x)).length < 8796093022208 := by rw [List.length_map, List.length_take]; omega
  have hih := ih (i + 1) k (by omega) (by omega)
  have c1 : (i : Int) < (l.length : Int) := by omega
  have c2 : 0 ≤ (i : Int) := by omega
  simp only [diff_Text.l0]
  rw [if_pos c1, if_pos c2, if_pos c1, rdC hlt]
  by_cases hc : l[i].f1 = true
  ·
   have e : chT l[i] = [33] ++ (Lib.itoa l[i].f0.f0 ++ [124] ++ bl l[i].f0.f1) := by unfold chT; rw [if_pos hc]
   have em : (⟨#[33]⟩ : ByteArray) ++ mk (Lib.itoa l[i].f0.f0 ++ [124] ++ bl l[i].f0.f1) = mk (chT l[i]) := by
    rw [e]
    exact mk_append [33] _
   have hcl := chT_len hx
   rw [e, List.length_append] at hcl
   rw [if_pos hc, format_eq hx.1, Option.bind_some, num_grp hx, Option.bind_some, em, mk_size, if_pos (by omega), if_pos hlen, e2, w64s (by omega), hih]
  ·
   have e : chT l[i] = rowT l[i].f0 := by unfold chT; rw [if_neg hc]
   have e1 := (one_row hx (k := k) (by omega)).1
   have e1' : row_Text.f k [(⟨l[i].f0.f0, l[i].f0.f1, (⟨l[i].f0.f2.f0, l[i].f0.f2.f1⟩ : S43)⟩ : Rw)] = some (mk (chT l[i])) := by rw [e]; exact e1
   rw [if_neg hc, e1', Option.bind_some, if_pos hlen, e2, w64s (by omega), hih]
theorem ctext_eq {l : List Ch} (h : GCh l) {k : Nat} (hk : 3400 ≤ k) : diff_Text.f k l = some (mk (chsT l)) := by
 have hl := h.1
 unfold diff_Text.f chsT
 by_cases c : l = []
 ·
  subst c
  rfl
 ·
  have : l.length ≠ 0 := fun e => c (List.eq_nil_of_length_eq_zero e)
  rw [if_neg (by omega), if_neg c]
  exact ctext_l0 h l.length 0 k (by omega) (by omega)
theorem rctext_l0 {l : List Ch} (h : GCh l) (d : Nat) : ∀ (i k : Nat), i + d = l.length → d + 2300 < k →
 ebbtideref09_Text.l0 k l ((l.take i).map fun x => mk (chT x)) (i : Int) = some (mk (Lib.join (l.map chT) [59])) := by
 have hl := h.1
 induction d with
 | zero =>
  intro i k hi hk
  obtain ⟨k, rfl⟩ := succ_of (show 0 < k by omega)
  have ht := chs_tot h
  have e := rjoin_eq (L := l.map chT) (s := [59]) (k := k) (by rw [List.length_map]; omega) (by simp) (by omega) (by rw [List.length_map]; omega)
  rw [List.map_map] at e
  simp only [ebbtideref09_Text.l0]
  rw [if_neg (by omega), List.take_of_length_le (by omega)]
  have e2 : ebbtideref02_Join.f k (⟨#[59]⟩ : ByteArray) (l.map fun x => mk (chT x)) = some (mk (Lib.join (l.map chT) [59])) := e
  rw [e2, Option.bind_some]
 | succ d ih =>
  intro i k hi hk
  obtain ⟨k, rfl⟩ := succ_of (show 0 < k by omega)
  have hlt : i < l.length := by omega
  have hx := h.2 _ (List.getElem_mem hlt)
  have e2 : ((l.take i).map fun x => mk (chT x)) ++ [mk (chT l[i])] = (l.take (i + 1)).map fun x => mk (chT x) := by rw [take_at hlt, List.map_append]; rfl
  have hlen : ((l.take i).map fun x => mk (chT x)).length < 8796093022208 := by rw [List.length_map, List.length_take]; omega
  have hih := ih (i + 1) k (by omega) (by omega)
  have c1 : (i : Int) < (l.length : Int) := by omega
  have c2 : 0 ≤ (i : Int) := by omega
  have e1 := (one_row hx (k := k) (by omega)).2
  have e1' : ebbtideref08_Text.f k [(⟨l[i].f0.f0, l[i].f0.f1, (⟨l[i].f0.f2.f0, l[i].f0.f2.f1⟩ : S43)⟩ : Rw)] = some (mk (rowT l[i].f0)) := e1
  simp only [ebbtideref09_Text.l0]
  rw [if_pos c1, if_pos c2, rdC hlt, e1', Option.bind_some]
  by_cases hc : l[i].f1 = true
  ·
   have e : chT l[i] = [33] ++ (Lib.itoa l[i].f0.f0 ++ [124] ++ bl l[i].f0.f1) := by unfold chT; rw [if_pos hc]
   have h0 := itoa_len hx.1
   have h1 := hx.2.1
   have h2 := bl_len l[i].f0.f1
   have em : mk (([33] ++ Lib.itoa l[i].f0.f0) ++ [124]) ++ l[i].f0.f1 = mk (chT l[i]) := by
    have := mk_append (([33] ++ Lib.itoa l[i].f0.f0) ++ [124]) (bl l[i].f0.f1)
    rw [bl_eta] at this
    rw [this, e]
    simp only [List.append_assoc]
   rw [if_pos hc, number_eq hx.1 (by omega), Option.bind_some, mk_size, if_pos (by omega), show (⟨#[33]⟩ : ByteArray) = mk [33] from rfl, mk_append, mk_size, if_pos (by simp only [List.length_append, List.length_singleton]; omega), show (⟨#[124]⟩ : ByteArray) = mk [124] from rfl, mk_append, mk_size, if_pos (by simp only [List.length_append, List.length_singleton]; omega), if_pos hlen, em, e2, w64s (by omega), hih]
  ·
   have e : chT l[i] = rowT l[i].f0 := by unfold chT; rw [if_neg hc]
   rw [if_neg hc, if_pos hlen, ← e, e2, w64s (by omega), hih]
theorem rctext_eq {l : List Ch} (h : GCh l) {k : Nat} (hk : 3400 ≤ k) : ebbtideref09_Text.f k l = some (mk (chsT l)) := by
 have hl := h.1
 unfold ebbtideref09_Text.f chsT
 by_cases c : l = []
 ·
  subst c
  rfl
 ·
  have : l.length ≠ 0 := fun e => c (List.eq_nil_of_length_eq_zero e)
  rw [if_neg (by omega), if_neg c]
  exact rctext_l0 h l.length 0 k (by omega) (by omega)
theorem alive_eq (k : Nat) (hk : 100 ≤ k) : ebbtidelaw09_alive.f k = some true :=
 at_rounds (g := fun k => ebbtidelaw09_alive.f k) ebbtidelaw09_alive.mono hk (by decide +kernel)
theorem mer_good {a b : List Rw} (ha : Fine a) (hb : Fine b) (ra : Rise a) (rb : Rise b) : GCh (mer a b) := by
 refine ⟨by have := mer_len a b; have := ha.1; have := hb.1; omega, fun c hc => ?_⟩
 rcases (mer_mem c a b ra rb).mp hc with ⟨x, hx, e, _⟩ | ⟨y, hy, e, _⟩
 ·
  have := (ha.2 x hx).1
  rw [e]
  exact ⟨this.1, this.2.1, (show I64 0 from ⟨by decide, by decide⟩)⟩
 ·
  rw [e]
  exact (hb.2 y hy).1
theorem of_good {a b : List Rw} (ha : Fine a) (hb : Fine b) : GCh (ofS a b).1 := by
 have hnil : GCh [] := ⟨by simp, fun c hc => by cases hc⟩
 unfold ofS
 split
 ·
  rename_i h
  split
  ·
   rename_i h2
   exact mer_good ha hb (right_rise h) (right_rise h2)
  ·
   exact hnil
 ·
  exact hnil
end Go.Proofs.YtgcbejidponoaaaGreatDoor.Pure
end
section
namespace Go.Proofs.YtgcbejidponoaaaGreatDoor.Pure
open Go.RowKit Go.Proofs.YtgcbejidponoaaaGreatDoor.X Go.Proofs.YtgcbejidponoaaaGreatDoorW.PrintWords Go.Proofs.YtgcbejidponoaaaGreatDoorW.PrintLast Go.Proofs.YtgcbejidponoaaaGreatDoorW.PrintMore Go.Proofs.YtgcbejidponoaaaGreatDoor.Aid Go.Proofs.YtgcbejidponoaaaGreatDoor.Bytes
theorem DiffOf : ebbtidelaw09_DiffOf.Pure := by
 intro a b qa _ qb _
 obtain ⟨K, hK⟩ : ∃ K : Nat, 40000 ≤ K := ⟨_, Nat.le_refl _⟩
 refine ⟨K + 1, ?_⟩
 unfold ebbtidelaw09_DiffOf.f
 rw [alive_eq _ (by omega), Option.bind_some, if_pos rfl]
 rcases rgreat_eq a qa.2 (k := K + 1) (by omega) with h | ⟨h, fa⟩
 ·
  rw [h, Option.bind_some, if_pos rfl, ebbtidelaw09_DiffOf.j0, if_pos rfl]
 ·
  rw [h, Option.bind_some, if_neg (by decide)]
  rcases rgreat_eq b qb.2 (k := K + 1) (by omega) with h2 | ⟨h2, fb⟩
  ·
   rw [h2, Option.bind_some, ebbtidelaw09_DiffOf.j0, if_pos rfl]
  ·
   have la := fa.1
   have lb := fb.1
   have hg := of_good fa fb
   have hl := hg.1
   rw [h2, Option.bind_some, ebbtidelaw09_DiffOf.j0, if_neg (by decide), Option.bind_some, if_pos (by simp; omega), Option.bind_some, List.nil_append, of_eq (fine_sh fa) (fine_sh fb) (by omega) (by omega) (by omega), Option.bind_some, rof_eq (fine_sh fa) (fine_sh fb) (by omega) (by omega) (by omega), Option.bind_some, (sameC_eq (by omega) (by omega)).1, Option.bind_some, if_pos (by simp), if_pos rfl, sameR_eq (by omega) (by omega), Option.bind_some, if_pos (by simp), ctext_eq hg (by omega), Option.bind_some, rctext_eq hg (by omega), Option.bind_some]
   simp
end Go.Proofs.YtgcbejidponoaaaGreatDoor.Pure
end
