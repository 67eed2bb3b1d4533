/- Plain facts on what the printed functions compute, joined; each says its conditions. -/
import Derived.Test.YtofaindjbhmopaaM1
import Derived.Test.YtofaindjbhmopaaM5
import Derived.Test.YtofaindjbhmopaaM8
import Derived.Test.YtofaindjbhmopaaM11
section
namespace Go.Proofs.Ytofaindjbhmopaa.Pure
open Go.RowKit Go.Proofs.Ytofaindjbhmopaa.X Go.Proofs.YtofaindjbhmopaaW.PrintWords Go.Proofs.YtofaindjbhmopaaW.PrintLast Go.Proofs.YtofaindjbhmopaaW.PrintMore Go.Proofs.Ytofaindjbhmopaa.Aid
abbrev C := Int × Int × Bool × Int × Int
def zc : C := (0, 0, false, 0, 0)
def ce (x : S52) : C := (x.f0, x.f1.f0, x.f1.f1, x.f2, x.f3)
def ec (c : C) : S52 := ⟨c.1, ⟨c.2.1, c.2.2.1⟩, c.2.2.2.1, c.2.2.2.2⟩
abbrev W := S82
theorem rdW {l : List W} {i : Nat} (h : i < l.length) : rd_T82 l (i : Int) = l[i] := getD_at h _
def LM : Nat := 2932031007402
def nw (s : Int) : Nat → Int → List W → Int
 | _, acc, [] => acc
 | i, acc, x :: l => nw s (i + 1) (if x.f0 ≤ s then (i : Int) else acc) l
theorem nw_cons (s : Int) (i : Nat) (acc : Int) (x : W) (l : List W) : nw s i acc (x :: l) = nw s (i + 1) (if x.f0 ≤ s then (i : Int) else acc) l := rfl
theorem nw_app (s : Int) (a c : List W) : ∀ (i : Nat) (acc : Int), nw s i acc (a ++ c) = nw s (i + a.length) (nw s i acc a) c := by
 induction a with
 | nil => intro i acc; rfl
 | cons x a ih =>
  intro i acc
  rw [List.cons_append, nw_cons, ih, nw_cons, List.length_cons]
  congr 1
  omega
theorem nw_take {l : List W} {i : Nat} (h : i < l.length) (s : Int) : nw s 0 (-1) (l.take (i + 1)) = if l[i].f0 ≤ s then (i : Int) else nw s 0 (-1) (l.take i) := by
 rw [take_at h, nw_app, List.length_take, Nat.min_eq_left (by omega), nw_cons, Nat.zero_add]
 rfl
theorem newest_l0 {l : List W} (hn : l.length < LM) (s : Int) : ∀ (i k : Nat), i ≤ l.length → i < k → chain_newest.l0 k l s ((i : Int) - 1) = some (nw s 0 (-1) (l.take i)) := by
 have hn' := hn
 unfold LM at hn'
 intro i
 induction i with
 | zero =>
  intro k _ hk
  obtain ⟨k, rfl⟩ := succ_of hk
  simp only [chain_newest.l0]
  rw [if_neg (by omega)]
  rfl
 | succ i ih =>
  intro k hi hk
  obtain ⟨k, rfl⟩ := succ_of hk
  have hlt : i < l.length := by omega
  have hc : (((i + 1 : Nat) : Int) - 1) = (i : Int) := by omega
  simp only [chain_newest.l0]
  rw [hc, if_pos (by omega), if_pos (by omega), if_pos (by omega), rdW hlt, w64p (by omega), ih k (by omega) (by omega), nw_take hlt]
  by_cases h : l[i].f0 ≤ s
  ·
   rw [if_pos h, if_pos h]
  ·
   rw [if_neg h, if_neg h]
theorem newest_eq {l : List W} (hn : l.length < LM) (s : Int) (k : Nat) (hk : l.length < k) : chain_newest.f k l s = some (nw s 0 (-1) l) := by
 have hn' := hn
 unfold LM at hn'
 unfold chain_newest.f
 rw [w64p (by omega), newest_l0 hn s l.length k (Nat.le_refl _) hk, List.take_length]
def atf (s : Int) (c : C) (l : List W) : C := l.foldl (fun c x => if x.f0 ≤ s then ce x.f1 else c) c
theorem atf_cons (s : Int) (c : C) (x : W) (l : List W) : atf s c (x :: l) = atf s (if x.f0 ≤ s then ce x.f1 else c) l := rfl
theorem atf_app (s : Int) (c : C) (a b : List W) : atf s c (a ++ b) = atf s (atf s c a) b := List.foldl_append
theorem atf_snoc (s : Int) (c : C) (a : List W) (x : W) : atf s c (a ++ [x]) = if x.f0 ≤ s then ce x.f1 else atf s c a := by rw [atf_app]; rfl
theorem nw_spec {l : List W} (s : Int) : ∀ (i : Nat), i ≤ l.length → (nw s 0 (-1) (l.take i) = -1 ∧ atf s zc (l.take i) = zc) ∨ (∃ j, ∃ h : j < l.length, nw s 0 (-1) (l.take i) = (j : Int) ∧ atf s zc (l.take i) = ce l[j].f1) := by
 intro i
 induction i with
 | zero => exact fun _ => Or.inl ⟨rfl, rfl⟩
 | succ i ih =>
  intro hi
  have hlt : i < l.length := by omega
  rw [nw_take hlt, take_at hlt, atf_snoc]
  by_cases h : l[i].f0 ≤ s
  ·
   rw [if_pos h, if_pos h]
   exact Or.inr ⟨i, hlt, rfl, rfl⟩
  ·
   rw [if_neg h, if_neg h]
   exact ih (by omega)
theorem at_eq {l : List W} (hn : l.length < LM) (s : Int) (k : Nat) (hk : l.length < k) : chain_At.f k l s = some (atf s zc l) := by
 unfold chain_At.f
 rw [newest_eq hn s k hk]
 simp only [Option.bind_some]
 have h := nw_spec (l := l) s l.length (Nat.le_refl _)
 rw [List.take_length] at h
 rcases h with ⟨h1, h2⟩ | ⟨j, hj, h1, h2⟩
 ·
  rw [h1, h2, if_neg (by omega)]
  rfl
 ·
  rw [h1, h2, if_pos (by omega), if_pos (by omega), if_pos (by omega), rdW hj]
  rfl
theorem rat_l0 {l : List W} (hn : l.length < LM) (s : Int) (d : Nat) : ∀ (i k : Nat) (c : C), i + d = l.length → d < k →
 r10_At.l0 k l s (i : Int) c.1 c.2.1 c.2.2.1 c.2.2.2.1 c.2.2.2.2 = some (atf s c (l.drop i)) := by
 have hn' := hn
 unfold LM at hn'
 induction d with
 | zero =>
  intro i k c hi hk
  obtain ⟨k, rfl⟩ := succ_of hk
  simp only [r10_At.l0]
  rw [if_neg (by omega), List.drop_of_length_le (by omega)]
  rfl
 | succ d ih =>
  intro i k c hi hk
  obtain ⟨k, rfl⟩ := succ_of hk
  have hlt : i < l.length := by omega
  simp only [r10_At.l0]
  rw [if_pos (by omega), if_pos (by omega), rdW hlt, drop_at hlt, w64s (by omega), atf_cons, ih (i + 1) k c (by omega) (by omega)]
  by_cases h : l[i].f0 ≤ s
  ·
   rw [if_pos h, if_pos h]
   exact ih (i + 1) k (ce l[i].f1) (by omega) (by omega)
  ·
   rw [if_neg h, if_neg h]
theorem rat_eq {l : List W} (hn : l.length < LM) (s : Int) (k : Nat) (hk : l.length < k) : r10_At.f k l s = some (atf s zc l) :=
 rat_l0 hn s l.length 0 k zc (by omega) hk
end Go.Proofs.Ytofaindjbhmopaa.Pure
end
section
namespace Go.Proofs.Ytofaindjbhmopaa.Pure
open Go.RowKit Go.Proofs.Ytofaindjbhmopaa.X Go.Proofs.YtofaindjbhmopaaW.PrintWords Go.Proofs.YtofaindjbhmopaaW.PrintLast Go.Proofs.YtofaindjbhmopaaW.PrintMore Go.Proofs.Ytofaindjbhmopaa.Aid
abbrev E := S59
abbrev D := S39
abbrev I := S54
theorem rdE {l : List E} {i : Nat} (h : i < l.length) : rd_T59 l (i : Int) = l[i] := getD_at h _
theorem rdD {l : List D} {i : Nat} (h : i < l.length) : rd_T39 l (i : Int) = l[i] := getD_at h _
def small (l : List E) : Prop := l.length ≤ 100 ∧ ∀ e ∈ l, e.f2.length ≤ 100 ∧ e.f1.size ≤ 300
theorem small_at {l : List E} (h : small l) {i : Nat} (hi : i < l.length) : l[i].f2.length ≤ 100 := (h.2 _ (List.getElem_mem hi)).1
def great (l : List E) : Bool := l.any fun e => decide (e.f2.length > 100) || decide (e.f1.size > 300)
theorem great_l0 {l : List E} (hn : l.length ≤ 100) (d : Nat) : ∀ (i k : Nat), i + d = l.length → d < k → r11_Great.l0 k (i : Int) l = some (great (l.drop i)) := by
 induction d with
 | zero =>
  intro i k hi hk
  obtain ⟨k, rfl⟩ := succ_of hk
  simp only [r11_Great.l0]
  rw [if_neg (by omega), List.drop_of_length_le (by omega)]
  rfl
 | succ d ih =>
  intro i k hi hk
  obtain ⟨k, rfl⟩ := succ_of hk
  have hlt : i < l.length := by omega
  simp only [r11_Great.l0]
  rw [if_pos (by omega), if_pos (by omega), rdE hlt, drop_at hlt, w64s (by omega), ih (i + 1) k (by omega) (by omega)]
  by_cases c1 : ((l[i].f2).length : Int) > 100
  ·
   rw [if_pos c1]
   have c2 : l[i].f2.length > 100 := by omega
   simp only [great, List.any_cons, decide_eq_true c2, Bool.true_or]
  ·
   rw [if_neg c1]
   have c2 : ¬ l[i].f2.length > 100 := by omega
   by_cases c3 : ((l[i].f1).size : Int) > 300
   ·
    rw [if_pos c3]
    have c4 : l[i].f1.size > 300 := by omega
    simp only [great, List.any_cons, decide_eq_true c4, Bool.or_true, Bool.true_or]
   ·
    rw [if_neg c3]
    have c4 : ¬ l[i].f1.size > 300 := by omega
    simp only [great, List.any_cons, decide_eq_false c2, decide_eq_false c4, Bool.or_self, Bool.false_or]
theorem great_or (l : List E) (k : Nat) (hk : 100 < k) : r11_Great.f k l = some true ∨ (r11_Great.f k l = some false ∧ small l) := by
 unfold r11_Great.f
 by_cases h : (l.length : Int) > 100
 ·
  exact .inl (if_pos h)
 ·
  rw [if_neg h]
  have h0 := great_l0 (l := l) (by omega) l.length 0 k (by omega) (by omega)
  rw [show ((0 : Nat) : Int) = 0 from rfl, List.drop_zero] at h0
  rw [h0]
  cases hg : great l with
  | true => exact .inl rfl
  | false =>
   refine .inr ⟨rfl, by omega, fun e he => ?_⟩
   have := List.any_eq_false.1 hg e he
   simp only [Bool.or_eq_true, decide_eq_true_eq, not_or] at this
   omega
def drp (ds : List D) (w s : Int) : Bool := ds.any fun x => x.f0 == w && decide (x.f1 ≤ s)
theorem drop_eq (ds : List D) (w s : Int) : shard_dropped.f ds w s = some (drp ds w s) := rfl
theorem rdrop_l0 {ds : List D} (hn : ds.length < LM) (w s : Int) (d : Nat) : ∀ (i k : Nat), i + d = ds.length → d < k → r11_Dropped.l0 k ds w s (i : Int) = some (drp (ds.drop i) w s) := by
 unfold LM at hn
 induction d with
 | zero =>
  intro i k hi hk
  obtain ⟨k, rfl⟩ := succ_of hk
  simp only [r11_Dropped.l0]
  rw [if_neg (by omega), List.drop_of_length_le (by omega)]
  rfl
 | succ d ih =>
  intro i k hi hk
  obtain ⟨k, rfl⟩ := succ_of hk
  have hlt : i < ds.length := by omega
  simp only [r11_Dropped.l0]
  rw [if_pos (by omega), if_pos (by omega), rdD hlt, drop_at hlt, w64s (by omega), ih (i + 1) k (by omega) (by omega)]
  unfold drp
  rw [List.any_cons]
  by_cases c1 : ds[i].f0 = w
  ·
   rw [if_pos c1, beq_iff_eq.2 c1]
   by_cases c2 : ds[i].f1 ≤ s
   ·
    rw [if_pos c2, decide_eq_true c2]
    rfl
   ·
    rw [if_neg c2, decide_eq_false c2]
    rfl
  ·
   rw [if_neg c1, beq_eq_false_iff_ne.2 c1]
   rfl
theorem rdrop_eq {ds : List D} (hn : ds.length < LM) (w s : Int) (k : Nat) (hk : ds.length < k) : r11_Dropped.f k ds w s = some (drp ds w s) := rdrop_l0 hn w s ds.length 0 k (by omega) hk
def rdl (s : Int) (ds : List D) : List E → List I
 | [] => []
 | e :: l => if drp ds e.f0 s = true then rdl s ds l else if (atf s zc e.f2).1 < 1 then rdl s ds l else ⟨e.f0, e.f1, ec (atf s zc e.f2)⟩ :: rdl s ds l
theorem rdl_cons (s : Int) (ds : List D) (e : E) (l : List E) : rdl s ds (e :: l) = if drp ds e.f0 s = true then rdl s ds l else if (atf s zc e.f2).1 < 1 then rdl s ds l else ⟨e.f0, e.f1, ec (atf s zc e.f2)⟩ :: rdl s ds l := rfl
theorem rdl_le (s : Int) (ds : List D) : ∀ l : List E, (rdl s ds l).length ≤ l.length
 | [] => Nat.le_refl _
 | e :: l => by
  have := rdl_le s ds l
  rw [rdl_cons]
  split
  ·
   simp only [List.length_cons]; omega
  ·
   split
   ·
    simp only [List.length_cons]; omega
   ·
    simp only [List.length_cons]; omega
theorem read_l0 {l : List E} (hl : small l) (s : Int) (ds : List D) (d : Nat) : ∀ (i k : Nat) (acc : List I), i + d = l.length → d + 101 < k → acc.length ≤ i →
 shard_Read.l0 k s ds acc l (l.length : Int) (i : Int) = some (acc ++ rdl s ds (l.drop i)) := by
 have hn := hl.1
 induction d with
 | zero =>
  intro i k acc hi hk _
  obtain ⟨k, rfl⟩ := succ_of hk
  simp only [shard_Read.l0]
  rw [if_neg (by omega), List.drop_of_length_le (by omega), rdl, List.append_nil]
 | succ d ih =>
  intro i k acc hi hk ha
  obtain ⟨k, rfl⟩ := succ_of hk
  have hlt : i < l.length := by omega
  have hs := small_at hl hlt
  have h1 := ih (i + 1) k (acc ++ [⟨l[i].f0, l[i].f1, ec (atf s zc l[i].f2)⟩]) (by omega) (by omega) (by rw [List.length_append, List.length_singleton]; omega)
  rw [List.append_assoc, List.singleton_append] at h1
  simp only [shard_Read.l0, drop_eq, Option.bind_some, cell_Empty.f]
  rw [if_pos (by omega), if_pos (by omega), if_pos (by omega), rdE hlt, drop_at hlt, w64s (by omega), rdl_cons, ih (i + 1) k acc (by omega) (by omega) (by omega), at_eq (l := l[i].f2) (by unfold LM; omega) s k (by omega)]
  simp only [Option.bind_some, decide_eq_true_eq]
  by_cases c1 : drp ds l[i].f0 s = true
  ·
   rw [if_pos c1, if_pos c1]
  ·
   rw [if_neg c1, if_neg c1]
   by_cases c2 : (atf s zc l[i].f2).1 < 1
   ·
    rw [if_pos c2, if_pos c2]
   ·
    rw [if_neg c2, if_neg c2, if_pos (show acc.length < 2199023255552 by omega)]
    exact h1
theorem read_eq {l : List E} (hl : small l) (s : Int) (ds : List D) (k : Nat) (hk : l.length + 101 < k) : shard_Read.f k l s ds = some (rdl s ds l) := by
 have h := read_l0 hl s ds l.length 0 k [] (by omega) hk (Nat.zero_le _)
 rw [List.nil_append, List.drop_zero] at h
 exact h
theorem rread_l0 {l : List E} (hl : small l) (s : Int) {ds : List D} (hd : ds.length < LM) (d : Nat) : ∀ (i k : Nat) (acc : List I), i + d = l.length → d + 101 + ds.length < k → acc.length ≤ i →
 r11_Read.l0 k s ds acc (i : Int) l = some (acc ++ rdl s ds (l.drop i)) := by
 have hn := hl.1
 induction d with
 | zero =>
  intro i k acc hi hk _
  obtain ⟨k, rfl⟩ := succ_of hk
  simp only [r11_Read.l0]
  rw [if_neg (by omega), List.drop_of_length_le (by omega), rdl, List.append_nil]
 | succ d ih =>
  intro i k acc hi hk ha
  obtain ⟨k, rfl⟩ := succ_of hk
  have hlt : i < l.length := by omega
  have hs := small_at hl hlt
  have h1 := ih (i + 1) k (acc ++ [⟨l[i].f0, l[i].f1, ec (atf s zc l[i].f2)⟩]) (by omega) (by omega) (by rw [List.length_append, List.length_singleton]; omega)
  rw [List.append_assoc, List.singleton_append] at h1
  simp only [r11_Read.l0]
  rw [if_pos (by omega), if_pos (by omega), rdE hlt, drop_at hlt, w64s (by omega), rdl_cons, ih (i + 1) k acc (by omega) (by omega) (by omega), rat_eq (l := l[i].f2) (by unfold LM; omega) s k (by omega), rdrop_eq hd l[i].f0 s k (by omega)]
  simp only [Option.bind_some]
  by_cases c2 : (atf s zc l[i].f2).1 < 1
  ·
   rw [if_neg (by omega)]
   by_cases c1 : drp ds l[i].f0 s = true
   ·
    rw [if_pos c1]
   ·
    rw [if_neg c1, if_pos c2]
  ·
   rw [if_pos (by omega)]
   by_cases c1 : drp ds l[i].f0 s = true
   ·
    rw [if_pos c1, if_pos c1]
   ·
    rw [if_neg c1, if_neg c1, if_neg c2, if_pos (show acc.length < 2199023255552 by omega)]
    exact h1
theorem rread_eq {l : List E} (hl : small l) (s : Int) {ds : List D} (hd : ds.length < LM) (k : Nat) (hk : l.length + 101 + ds.length < k) : r11_Read.f k l s ds = some (rdl s ds l) := by
 have h := rread_l0 hl s hd l.length 0 k [] (by omega) hk (Nat.zero_le _)
 rw [List.nil_append, List.drop_zero] at h
 exact h
def szw (n : Int) : List E → Int
 | [] => n
 | e :: l => szw (wrap64 (n + (e.f2.length : Int))) l
theorem size_l0 {l : List E} (hn : l.length ≤ 100) (d : Nat) : ∀ (i k : Nat) (n : Int), i + d = l.length → d < k → shard_Size.l0 k n l (l.length : Int) (i : Int) = some (szw n (l.drop i)) := by
 induction d with
 | zero =>
  intro i k n hi hk
  obtain ⟨k, rfl⟩ := succ_of hk
  simp only [shard_Size.l0]
  rw [if_neg (by omega), List.drop_of_length_le (by omega)]
  rfl
 | succ d ih =>
  intro i k n hi hk
  obtain ⟨k, rfl⟩ := succ_of hk
  have hlt : i < l.length := by omega
  simp only [shard_Size.l0]
  rw [if_pos (by omega), if_pos (by omega), if_pos (by omega), rdE hlt, drop_at hlt, w64s (by omega), ih (i + 1) k _ (by omega) (by omega)]
  rfl
theorem rsize_l0 {l : List E} (hn : l.length ≤ 100) (d : Nat) : ∀ (i k : Nat) (n : Int), i + d = l.length → d < k → r11_Size.l0 k n (i : Int) l = some (szw n (l.drop i)) := by
 induction d with
 | zero =>
  intro i k n hi hk
  obtain ⟨k, rfl⟩ := succ_of hk
  simp only [r11_Size.l0]
  rw [if_neg (by omega), List.drop_of_length_le (by omega)]
  rfl
 | succ d ih =>
  intro i k n hi hk
  obtain ⟨k, rfl⟩ := succ_of hk
  have hlt : i < l.length := by omega
  simp only [r11_Size.l0]
  rw [if_pos (by omega), if_pos (by omega), rdE hlt, drop_at hlt, w64s (by omega), ih (i + 1) k _ (by omega) (by omega)]
  rfl
theorem size_eq {l : List E} (hn : l.length ≤ 100) (k : Nat) (hk : l.length < k) : shard_Size.f k l = some (szw 0 l) := size_l0 hn l.length 0 k 0 (by omega) hk
theorem rsize_eq {l : List E} (hn : l.length ≤ 100) (k : Nat) (hk : l.length < k) : r11_Size.f k l = some (szw 0 l) := rsize_l0 hn l.length 0 k 0 (by omega) hk
theorem items_l0 {l : List I} (hn : l.length ≤ 100) (d : Nat) : ∀ (i k : Nat), i + d = l.length → d < k → r08_Items.l0 k l l (i : Int) = some true := by
 induction d with
 | zero =>
  intro i k hi hk
  obtain ⟨k, rfl⟩ := succ_of hk
  simp only [r08_Items.l0]
  rw [if_neg (by omega)]
 | succ d ih =>
  intro i k hi hk
  obtain ⟨k, rfl⟩ := succ_of hk
  have hlt : i < l.length := by omega
  simp only [r08_Items.l0]
  rw [if_pos (by omega), if_pos (by omega), if_pos (by omega), w64s (by omega), ih (i + 1) k (by omega) (by omega)]
  rw [if_neg (by simp)]
theorem items_eq {l : List I} (hn : l.length ≤ 100) (k : Nat) (hk : l.length < k) : r08_Items.f k l l = some true := by
 unfold r08_Items.f
 rw [if_pos rfl]
 exact items_l0 hn l.length 0 k (by omega) hk
end Go.Proofs.Ytofaindjbhmopaa.Pure
end
section
namespace Go.Proofs.Ytofaindjbhmopaa.Pure
open Go.RowKit Go.Proofs.Ytofaindjbhmopaa.X Go.Proofs.YtofaindjbhmopaaW.PrintWords Go.Proofs.YtofaindjbhmopaaW.PrintLast Go.Proofs.YtofaindjbhmopaaW.PrintMore Go.Proofs.Ytofaindjbhmopaa.Aid
theorem alive_eq (k : Nat) (hk : 30 ≤ k) : w11_alive.f k = some true :=
 at_rounds (g := fun k => w11_alive.f k) w11_alive.mono hk (by decide +kernel)
theorem law_l0 {l : List E} (hl : small l) (s : Int) {ds : List D} (hd : ds.length < LM) (d : Nat) : ∀ (i k : Nat), i + d = ds.length → d + l.length + 102 + ds.length < k →
 w11_ShardReads.l0 k s ds ds (rdl s ds l) (i : Int) l = some true := by
 have hn := hl.1
 have hd' := hd
 unfold LM at hd'
 induction d with
 | zero =>
  intro i k hi hk
  obtain ⟨k, rfl⟩ := succ_of hk
  have hle := rdl_le s ds l
  simp only [w11_ShardReads.l0]
  rw [if_neg (by omega), rread_eq hl s hd k (by omega)]
  simp only [Option.bind_some]
  rw [items_eq (l := rdl s ds l) (by omega) k (by omega)]
  simp only [Option.bind_some]
  rw [if_pos trivial, size_eq hn k (by omega), rsize_eq hn k (by omega)]
  simp
 | succ d ih =>
  intro i k hi hk
  obtain ⟨k, rfl⟩ := succ_of hk
  have hlt : i < ds.length := by omega
  simp only [w11_ShardReads.l0]
  rw [if_pos (by omega), if_pos (by omega), if_pos (by omega), if_neg (by simp), w64s (by omega)]
  exact ih (i + 1) k (by omega) (by omega)
theorem ShardReads : w11_ShardReads.Pure := by
 intro x0 a1 l2 _ _ _ _
 refine ⟨1000, ?_⟩
 unfold w11_ShardReads.f
 rw [alive_eq 1000 (by decide)]
 simp only [Option.bind_some]
 rw [if_pos trivial]
 rcases great_or x0.f0 1000 (by decide) with h | ⟨h, hs⟩
 ·
  rw [h]
  rfl
 ·
  rw [h]
  simp only [Option.bind_some]
  rw [if_neg (by simp)]
  by_cases hc : (l2.length : Int) > 50
  ·
   rw [decide_eq_true hc]
   rfl
  ·
   rw [decide_eq_false hc]
   have hn := hs.1
   simp only [w11_ShardReads.j0, Option.bind_some, List.nil_append, List.length_nil]
   rw [if_neg (by simp), if_pos (by omega), read_eq hs a1 l2 999 (by omega)]
   simp only [Option.bind_some]
   exact law_l0 hs a1 (by unfold LM; omega) l2.length 0 999 (by omega) (by omega)
end Go.Proofs.Ytofaindjbhmopaa.Pure
end
