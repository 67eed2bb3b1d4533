/- Plain facts on what the printed functions compute, joined; each says its conditions. -/
import Derived.Test.YteckidchnicjeaaGreatDoorM1
import Derived.Test.YteckidchnicjeaaGreatDoorM4
import Derived.Test.YteckidchnicjeaaGreatDoorM9
import Derived.Test.YteckidchnicjeaaGreatDoorM3
import Derived.Lib.ItoaNum
import Derived.Test.YteckidchnicjeaaGreatDoorM5
import Derived.Lib.ParseIntB
import Derived.Test.YteckidchnicjeaaGreatDoorM6
import Derived.Lib.IndexMore
import Derived.Test.YteckidchnicjeaaGreatDoorM10
import Derived.Test.YteckidchnicjeaaGreatDoorM7
import Derived.Test.YteckidchnicjeaaGreatDoorM8
section
namespace Go.Proofs.YteckidchnicjeaaGreatDoor.Pure
open Go.RowKit Go.Proofs.YteckidchnicjeaaGreatDoor.X Go.Proofs.YteckidchnicjeaaGreatDoorW.PrintWords Go.Proofs.YteckidchnicjeaaGreatDoorW.PrintLast Go.Proofs.YteckidchnicjeaaGreatDoorW.PrintMore Go.Proofs.YteckidchnicjeaaGreatDoor.Aid Go.Proofs.YteckidchnicjeaaGreatDoor.Bytes
abbrev T := List UInt8
def bl (s : ByteArray) : T := s.data.toList
theorem bl_eta (s : ByteArray) : mk (bl s) = s := mk_eta s
theorem bl_len (s : ByteArray) : (bl s).length = s.size := by rw [← mk_size, bl_eta]
theorem join_eq {L : List T} {s : T} (hn : L.length ≤ 100000) (hj : (Lib.join L s).length ≤ 100000000) : word_Join.f (mk s) (L.map mk) = some (mk (Lib.join L s)) := by
 unfold word_Join.f strings_Join.f
 rw [List.length_map, map_mk, mk_data, if_pos ⟨by omega, by omega⟩]
 rfl
def tot (L : List T) : Nat := L.flatten.length
theorem tot_cons (x : T) (L : List T) : tot (x :: L) = x.length + tot L := by simp [tot]
theorem tail_cons (s x : T) (L : List T) : Lib.joinTail s (x :: L) = s ++ x ++ Lib.joinTail s L := by simp [Lib.joinTail]
theorem tail_len (s : T) (L : List T) : (Lib.joinTail s L).length = L.length * s.length + tot L := by
 induction L with
 | nil => simp [Lib.joinTail, tot]
 | cons x L ih =>
  have : Lib.joinTail s (x :: L) = s ++ x ++ Lib.joinTail s L := by simp [Lib.joinTail]
  rw [this, tot_cons, List.length_append, List.length_append, ih, List.length_cons, Nat.succ_mul]
  omega
theorem join_len (s : T) (L : List T) : (Lib.join L s).length ≤ L.length * s.length + tot L := by
 cases L with
 | nil => simp [Lib.join_nil]
 | cons x L =>
  rw [Lib.join_cons, List.length_append, tail_len, tot_cons, List.length_cons, Nat.succ_mul]
  omega
theorem rjoin_l0 {L : List T} {s : T} (hn : L.length ≤ 100000) (d : Nat) : ∀ (i k : Nat) (acc : T), i + d = L.length → d < k → 0 < i → acc.length + d * s.length + tot (L.drop i) ≤ 1000000000 →
 r02_Join.l0 k (mk s) (L.map mk) (mk acc) (i : Int) = some (mk (acc ++ Lib.joinTail s (L.drop i))) := by
 induction d with
 | zero =>
  intro i k acc hi hk _ _
  obtain ⟨k, rfl⟩ := succ_of hk
  simp only [r02_Join.l0, List.length_map]
  rw [if_neg (by omega), List.drop_of_length_le (by omega)]
  simp [Lib.joinTail]
 | succ d ih =>
  intro i k acc hi hk h0 hb
  obtain ⟨k, rfl⟩ := succ_of hk
  have hlt : i < L.length := by omega
  rw [drop_at hlt, tot_cons, Nat.succ_mul] at hb
  simp only [r02_Join.l0, List.length_map]
  rw [if_pos (by omega), if_pos (by omega), mk_append, rds hlt, mk_append, mk_size, mk_size, mk_size, mk_size, List.length_append, if_pos (by omega), if_pos (by omega), if_pos (by omega), w64s (by omega), ih (i + 1) k _ (by omega) (by omega) (by omega) (by rw [List.length_append, List.length_append]; omega), drop_at hlt, tail_cons]
  simp only [List.append_assoc]
theorem rjoin_eq {L : List T} {s : T} (hn : L.length ≤ 100000) (hs : s.length ≤ 10) (ht : tot L ≤ 100000000) {k : Nat} (hk : L.length + 1 < k) : r02_Join.f k (mk s) (L.map mk) = some (mk (Lib.join L s)) := by
 obtain ⟨k, rfl⟩ := succ_of (show 0 < k by omega)
 have hm : L.length * s.length ≤ 100000 * 10 := Nat.mul_le_mul hn hs
 unfold r02_Join.f
 simp only [r02_Join.l0, List.length_map]
 cases L with
 | nil =>
  rw [if_neg (by simp)]
  rfl
 | cons x L =>
  rw [tot_cons] at ht
  rw [List.length_cons, Nat.succ_mul] at hm
  have he : ∀ y : ByteArray, (⟨#[]⟩ : ByteArray) ++ y = y := fun y => by
   have := mk_append [] y.data.toList
   rw [mk_eta, List.nil_append, mk_eta] at this
   exact this
  have hr : rdOf ByteArray.empty ((x :: L).map mk) 0 = mk x := rds (L := x :: L) (i := 0) (by simp)
  rw [if_pos (by simp only [List.length_cons]; omega), if_neg (by omega), if_pos (by omega), hr, he, mk_size, if_pos (by show 0 + x.length ≤ _; omega)]
  have h := rjoin_l0 (L := x :: L) (s := s) hn L.length 1 k x (by rw [List.length_cons]; omega) (by rw [List.length_cons] at hk; omega) (by omega) (by rw [List.drop_succ_cons, List.drop_zero]; omega)
  rw [List.drop_succ_cons, List.drop_zero, ← Lib.join_cons] at h
  rw [show wrap64 (0 + 1) = ((1 : Nat) : Int) from by unfold wrap64; omega]
  exact h
theorem tot_le (b : Nat) : ∀ (L : List T), (∀ x ∈ L, x.length ≤ b) → tot L ≤ L.length * b
 | [], _ => by simp [tot]
 | x :: L, h => by
  have h1 := h x List.mem_cons_self
  have h2 := tot_le b L (fun y hy => h y (List.mem_cons_of_mem _ hy))
  rw [tot_cons, List.length_cons, Nat.succ_mul]
  omega
end Go.Proofs.YteckidchnicjeaaGreatDoor.Pure
end
section
namespace Go.Proofs.YteckidchnicjeaaGreatDoor.Pure
open Go.RowKit Go.Proofs.YteckidchnicjeaaGreatDoor.X Go.Proofs.YteckidchnicjeaaGreatDoorW.PrintWords Go.Proofs.YteckidchnicjeaaGreatDoorW.PrintLast Go.Proofs.YteckidchnicjeaaGreatDoorW.PrintMore Go.Proofs.YteckidchnicjeaaGreatDoor.Aid Go.Proofs.YteckidchnicjeaaGreatDoor.Bytes
def I64 (a : Int) : Prop := -9223372036854775808 ≤ a ∧ a ≤ 9223372036854775807
abbrev Rw := S60
theorem rdR {l : List Rw} {i : Nat} (h : i < l.length) : rd_T60 l (i : Int) = l[i] := getD_at h _
def GRow (x : Rw) : Prop := I64 x.f0 ∧ x.f1.size ≤ 1000 ∧ I64 x.f2.f0
def GRows (l : List Rw) : Prop := l.length ≤ 1000 ∧ ∀ x ∈ l, GRow x
end Go.Proofs.YteckidchnicjeaaGreatDoor.Pure
end
section
namespace Go.Proofs.YteckidchnicjeaaGreatDoor.Pure
open Go.RowKit Go.Proofs.YteckidchnicjeaaGreatDoor.X Go.Proofs.YteckidchnicjeaaGreatDoorW.PrintWords Go.Proofs.YteckidchnicjeaaGreatDoorW.PrintLast Go.Proofs.YteckidchnicjeaaGreatDoorW.PrintMore Go.Proofs.YteckidchnicjeaaGreatDoor.Aid Go.Proofs.YteckidchnicjeaaGreatDoor.Bytes
theorem d_small {u : Nat} (h : u < 10) : Lib.decDigits u = [UInt8.ofNat (48 + u)] := by rw [Lib.decDigits, dif_pos h]
theorem d_big {u : Nat} (h : ¬ u < 10) : Lib.decDigits u = Lib.decDigits (u / 10) ++ [UInt8.ofNat (48 + u % 10)] := by rw [Lib.decDigits, dif_neg h]
theorem ofNat_dig {d : Nat} (h : d < 10) : (UInt8.ofNat (48 + d)).toNat = 48 + d := by
 rw [UInt8.toNat_ofNat']
 omega
theorem format_eq {n : Int} (h : I64 n) : sat_Number.f n = some (mk (Lib.itoa n)) := by
 unfold sat_Number.f strconv_FormatInt.f
 rw [if_pos ⟨rfl, h.1, h.2⟩, Option.bind_some]
 rfl
def sgn (n : Int) : T := if n < 0 then [45] else []
theorem itoa_sgn (n : Int) : Lib.itoa n = sgn n ++ Lib.decDigits n.natAbs := by
 unfold Lib.itoa sgn
 by_cases h : n < 0
 ·
  rw [if_pos h, if_pos h]; rfl
 ·
  rw [if_neg h, if_neg h, show n.toNat = n.natAbs by omega]; rfl
def txt (n : Int) (o : Bool) : T := if o = true then Lib.itoa n ++ [33] else Lib.itoa n
theorem itoa_len {n : Int} (h : I64 n) : (Lib.itoa n).length ≤ 100 := by
 unfold I64 at h
 have h20 : n.natAbs < 10 ^ (20 + 1) := by
  have : (10 : Nat) ^ 21 = 1000000000000000000000 := by decide
  omega
 have g : ∀ (d u : Nat), u < 10 ^ (d + 1) → (Lib.decDigits u).length ≤ d + 1 := by
  intro d
  induction d with
  | zero => intro u hu; rw [d_small (by simpa using hu)]; simp
  | succ d ih =>
   intro u hu
   by_cases h : u < 10
   ·
    rw [d_small h]; simp
   ·
    rw [d_big h, List.length_append, List.length_singleton]
    have := ih (u / 10) (by rw [Nat.pow_succ] at hu; omega)
    omega
 have := g 20 _ h20
 rw [itoa_sgn, List.length_append]
 unfold sgn
 split <;> simp <;> omega
theorem stext_eq {n : Int} (h : I64 n) (o : Bool) : sat_Text.f n o = some (mk (txt n o)) := by
 have hl := itoa_len h
 unfold sat_Text.f txt
 rw [format_eq h]
 cases o
 ·
  rfl
 ·
  simp only [if_true]
  rw [Option.bind_some, mk_size, if_pos (by omega), show (⟨#[33]⟩ : ByteArray) = mk [33] from rfl, mk_append]
end Go.Proofs.YteckidchnicjeaaGreatDoor.Pure
end
section
namespace Go.Proofs.YteckidchnicjeaaGreatDoor.Pure
open Go.RowKit Go.Proofs.YteckidchnicjeaaGreatDoor.X Go.Proofs.YteckidchnicjeaaGreatDoorW.PrintWords Go.Proofs.YteckidchnicjeaaGreatDoorW.PrintLast Go.Proofs.YteckidchnicjeaaGreatDoorW.PrintMore Go.Proofs.YteckidchnicjeaaGreatDoor.Aid Go.Proofs.YteckidchnicjeaaGreatDoor.Bytes
def rowT (x : Rw) : T := Lib.itoa x.f0 ++ [124] ++ bl x.f1 ++ [124] ++ txt x.f2.f0 x.f2.f1
def rowsT (l : List Rw) : T := if l = [] then [45] else Lib.join (l.map rowT) [59]
theorem txt_len {n : Int} (h : I64 n) (o : Bool) : (txt n o).length ≤ 101 := by
 have := itoa_len h
 unfold txt
 split
 ·
  rw [List.length_append, List.length_singleton]; omega
 ·
  omega
theorem rowT_len {x : Rw} (h : GRow x) : (rowT x).length ≤ 1300 := by
 obtain ⟨h0, h1, h2⟩ := h
 have a := itoa_len h0
 have b := txt_len h2 x.f2.f1
 unfold rowT
 simp only [List.length_append, List.length_singleton, bl_len]
 omega
theorem rows_tot {l : List Rw} (h : GRows l) : tot (l.map rowT) ≤ 1300000 := by
 have h1 := tot_le 1300 (l.map rowT) (fun x hx => by
  obtain ⟨y, hy, rfl⟩ := List.mem_map.mp hx
  exact rowT_len (h.2 y hy))
 rw [List.length_map] at h1
 have := h.1
 omega
theorem rowsT_len {l : List Rw} (h : GRows l) : (rowsT l).length ≤ 1310000 := by
 unfold rowsT
 split
 ·
  simp
 ·
  have h1 := join_len [59] (l.map rowT)
  have h2 := rows_tot h
  have h3 := h.1
  rw [List.length_map, List.length_singleton] at h1
  omega
theorem row_one {x : Rw} (h : GRow x) : word_Join.f (mk [124]) [mk (Lib.itoa x.f0), x.f1, mk (txt x.f2.f0 x.f2.f1)] = some (mk (rowT x)) := by
 have e : Lib.join [Lib.itoa x.f0, bl x.f1, txt x.f2.f0 x.f2.f1] [124] = rowT x := by
  rw [Lib.join_cons, tail_cons, tail_cons]
  simp [rowT, Lib.joinTail]
 have hl := rowT_len h
 have := join_eq (L := [Lib.itoa x.f0, bl x.f1, txt x.f2.f0 x.f2.f1]) (s := [124]) (by simp) (by rw [e]; omega)
 rw [e, List.map_cons, List.map_cons, List.map_cons, bl_eta] at this
 exact this
theorem rows_l0 {l : List Rw} (h : GRows l) (d : Nat) : ∀ (i k : Nat), i + d = l.length → d < k →
 row_Text.l0 k ((l.take i).map fun x => mk (rowT x)) l (l.length : Int) (i : Int) = some (mk (Lib.join (l.map rowT) [59])) := by
 have hl := h.1
 induction d with
 | zero =>
  intro i k hi hk
  obtain ⟨k, rfl⟩ := succ_of hk
  have hj := join_len [59] (l.map rowT)
  have ht := rows_tot h
  rw [List.length_map, List.length_singleton] at hj
  have e := join_eq (L := l.map rowT) (s := [59]) (by rw [List.length_map]; omega) (by omega)
  rw [List.map_map] at e
  simp only [row_Text.l0]
  rw [if_neg (by omega), List.take_of_length_le (by omega)]
  have e2 : word_Join.f (⟨#[59]⟩ : ByteArray) (l.map fun x => mk (rowT x)) = some (mk (Lib.join (l.map rowT) [59])) := e
  rw [e2, Option.bind_some]
 | succ d ih =>
  intro i k hi hk
  obtain ⟨k, rfl⟩ := succ_of hk
  have hlt : i < l.length := by omega
  have hx := h.2 _ (List.getElem_mem hlt)
  have e := row_one hx
  have e2 : ((l.take i).map fun x => mk (rowT x)) ++ [mk (rowT l[i])] = (l.take (i + 1)).map fun x => mk (rowT x) := by rw [take_at hlt, List.map_append]; rfl
  simp only [row_Text.l0]
  rw [if_pos (by omega), if_pos (by omega), if_pos (by omega), rdR hlt, format_eq hx.1, Option.bind_some, stext_eq hx.2.2 l[i].f2.f1, Option.bind_some]
  have e' : word_Join.f (⟨#[124]⟩ : ByteArray) [mk (Lib.itoa l[i].f0), l[i].f1, mk (txt l[i].f2.f0 l[i].f2.f1)] = some (mk (rowT l[i])) := e
  rw [e', Option.bind_some, if_pos (by rw [List.length_map, List.length_take]; omega), w64s (by omega), e2]
  exact ih (i + 1) k (by omega) (by omega)
theorem rows_eq {l : List Rw} (h : GRows l) {k : Nat} (hk : 1010 ≤ k) : row_Text.f k l = some (mk (rowsT l)) := by
 have hl := h.1
 unfold row_Text.f rowsT
 by_cases c : l = []
 ·
  subst c
  rfl
 ·
  have : l.length ≠ 0 := fun e => c (List.eq_nil_of_length_eq_zero e)
  rw [if_neg (by omega), if_neg c]
  exact rows_l0 h l.length 0 k (by omega) (by omega)
end Go.Proofs.YteckidchnicjeaaGreatDoor.Pure
end
section
namespace Go.Proofs.YteckidchnicjeaaGreatDoor.Pure
open Go.RowKit Go.Proofs.YteckidchnicjeaaGreatDoor.X Go.Proofs.YteckidchnicjeaaGreatDoorW.PrintWords Go.Proofs.YteckidchnicjeaaGreatDoorW.PrintLast Go.Proofs.YteckidchnicjeaaGreatDoorW.PrintMore Go.Proofs.YteckidchnicjeaaGreatDoor.Aid Go.Proofs.YteckidchnicjeaaGreatDoor.Bytes
def glue (p : T) : List T → List T
 | [] => [p]
 | h :: t => (p ++ h) :: t
def spl (c : UInt8) : T → List T
 | [] => [[]]
 | x :: l => if x = c then [] :: spl c l else glue [x] (spl c l)
theorem spl_cons (c x : UInt8) (l : T) : spl c (x :: l) = if x = c then [] :: spl c l else glue [x] (spl c l) := rfl
theorem spl_ne (c : UInt8) (l : T) : spl c l ≠ [] := by
 cases l with
 | nil => simp [spl]
 | cons x l =>
  rw [spl_cons]
  split
  ·
   simp
  ·
   unfold glue
   split <;> simp
theorem glue_nil {L : List T} (h : L ≠ []) : glue [] L = L := by
 cases L with
 | nil => exact absurd rfl h
 | cons x L => rfl
theorem glue_glue (p q : T) (L : List T) : glue p (glue q L) = glue (p ++ q) L := by
 cases L with
 | nil => rfl
 | cons x L => simp [glue]
theorem spl_len (c : UInt8) (l : T) : (spl c l).length ≤ l.length + 1 := by
 induction l with
 | nil => simp [spl]
 | cons x l ih =>
  rw [spl_cons, List.length_cons]
  split
  ·
   rw [List.length_cons]; omega
  ·
   have := spl_ne c l
   cases h : spl c l with
   | nil => exact absurd h this
   | cons y L =>
    rw [h] at ih
    simp only [glue, List.length_cons] at ih ⊢
    omega
theorem idx_spl (c : UInt8) (l : T) : (Lib.indexByte l c = -1 ∧ spl c l = [l]) ∨ ∃ i : Nat, Lib.indexByte l c = (i : Int) ∧ i < l.length ∧ spl c l = l.take i :: spl c (l.drop (i + 1)) := by
 induction l with
 | nil => exact .inl ⟨rfl, rfl⟩
 | cons x l ih =>
  unfold Lib.indexByte
  rw [spl_cons]
  by_cases h : x = c
  ·
   rw [if_pos (beq_iff_eq.mpr h), if_pos h]
   exact .inr ⟨0, rfl, by simp, by simp⟩
  ·
   rw [if_neg (by simpa using h), if_neg h]
   rcases ih with ⟨h1, h2⟩ | ⟨i, h1, h2, h3⟩
   ·
    rw [h1, h2]
    exact .inl ⟨rfl, rfl⟩
   ·
    rw [h1, h3, if_neg (by simp only [beq_iff_eq]; omega)]
    exact .inr ⟨i + 1, by omega, by simp only [List.length_cons]; omega, by simp [glue]⟩
theorem split_l0 (c : UInt8) (n : Nat) : ∀ (l : T) (k : Nat) (acc : List ByteArray), l.length ≤ n → n + 1 < k → acc.length + n + 1 < 100000 → word_Split.l0 k (mk l) (c.toNat : Int) acc = some (acc ++ (spl c l).map mk) := by
 induction n with
 | zero =>
  intro l k acc hl hk ha
  obtain ⟨k, rfl⟩ := succ_of hk
  have e : l = [] := List.eq_nil_of_length_eq_zero (by omega)
  subst e
  simp only [word_Split.l0, strings_IndexByte.f, Option.bind_some, mk_data, byte_back]
  rw [if_pos (by simp [Lib.indexByte]), if_pos (by omega)]
  rfl
 | succ n ih =>
  intro l k acc hl hk ha
  obtain ⟨k, rfl⟩ := succ_of hk
  simp only [word_Split.l0, strings_IndexByte.f, Option.bind_some, mk_data, byte_back, mk_size]
  rcases idx_spl c l with ⟨h1, h2⟩ | ⟨i, h1, h2, h3⟩
  ·
   rw [h1, h2, if_pos (by decide), if_pos (by omega)]
   rfl
  ·
   have hw : wrap64 ((i : Int) + 1) = ((i + 1 : Nat) : Int) := w64s (by omega)
   rw [h1, if_neg (by omega), if_pos (by omega), if_pos (by omega), if_pos (by omega), hw, if_pos (by omega), if_pos (by omega), Int.toNat_natCast, Int.toNat_natCast, mk_upto]
   have he := mk_from l (i + 1)
   rw [mk_size] at he
   rw [he, ih (l.drop (i + 1)) k _ (by rw [List.length_drop]; omega) (by omega) (by rw [List.length_append, List.length_singleton]; omega), h3, List.map_cons, List.append_assoc]
   rfl
theorem split_eq (c : UInt8) {l : T} (hl : l.length ≤ 20000) (k : Nat) (hk : 20010 < k) : word_Split.f k (mk l) (c.toNat : Int) = some ((spl c l).map mk) :=
 split_l0 c 20000 l k [] hl (by omega) (by simp)
def okS (b : UInt8) : Bool := decide (97 ≤ b.toNat) && decide (b.toNat ≤ 122)
def okD (b : UInt8) : Bool := decide (48 ≤ b.toNat) && decide (b.toNat ≤ 57)
def okN (b : UInt8) : Bool := okS b || okD b || decide (b.toNat = 95)
def okV (b : UInt8) : Bool := okN b || decide (b.toNat = 45) || decide (b.toNat = 46)
def smallL : T := [97, 98, 99, 100, 101, 102, 103, 104, 105, 106, 107, 108, 109, 110, 111, 112, 113, 114, 115, 116, 117, 118, 119, 120, 121, 122]
def nameL : T := smallL ++ [48, 49, 50, 51, 52, 53, 54, 55, 56, 57, 95]
def valL : T := nameL ++ [45, 46]
theorem byte_all {p : UInt8 → Prop} (h : ∀ n, n < 256 → p (UInt8.ofNat n)) (b : UInt8) : p b := by
 have := h b.toNat b.toNat_lt
 rwa [UInt8.ofNat_toNat] at this
theorem name_ok (b : UInt8) : nameL.contains b = okN b := byte_all (p := fun b => nameL.contains b = okN b) (by decide +kernel) b
theorem val_ok (b : UInt8) : valL.contains b = okV b := byte_all (p := fun b => valL.contains b = okV b) (by decide +kernel) b
theorem small_ok (b : UInt8) : decide (Lib.indexByte smallL b ≥ 0) = okS b := byte_all (p := fun b => decide (Lib.indexByte smallL b ≥ 0) = okS b) (by decide +kernel) b
theorem dropW_nil (p : UInt8 → Bool) (l : T) : l.dropWhile p = [] ↔ l.all p = true := by
 induction l with
 | nil => simp
 | cons x l ih =>
  rw [List.dropWhile_cons, List.all_cons]
  by_cases h : p x = true
  ·
   rw [if_pos h, h, Bool.true_and]
   exact ih
  ·
   rw [if_neg h, Bool.eq_false_iff.mpr h, Bool.false_and]
   simp
theorem trim_nil (l cs : T) : Lib.trimS l cs = [] ↔ l.all (fun b => cs.contains b) = true := by
 unfold Lib.trimS Lib.trimLeftS Lib.trimRightS
 rw [dropW_nil]
 by_cases h : (l.reverse.dropWhile fun b => cs.contains b) = []
 ·
  have h2 := (dropW_nil _ _).mp h
  rw [List.all_reverse] at h2
  rw [h, h2]
  simp
 ·
  have h2 : ¬ l.all (fun b => cs.contains b) = true := fun e => h ((dropW_nil _ _).mpr (by rw [List.all_reverse]; exact e))
  rw [List.all_reverse]
  constructor
  ·
   intro e
   exfalso
   obtain ⟨x, r, hr⟩ := List.exists_cons_of_ne_nil h
   have hx : ¬ cs.contains x = true := by
    have := List.head_dropWhile_not (fun b => cs.contains b) h
    simp only [hr, List.head_cons] at this
    simpa using this
   rw [hr, List.all_cons] at e
   exact hx (by simpa using (Bool.and_eq_true_iff.mp e).1)
  ·
   intro e
   exact absurd e h2
def made (l cs : T) : Bool := decide (l ≠ []) && (decide (l.length ≤ 12) && l.all fun b => cs.contains b)
theorem made_eq {l cs : T} (hl : l.length ≤ 100000) (hc : cs.length ≤ 1000) (ha : cs.all (fun b => decide (b.toNat < 128)) = true) : word_made.f (mk l) (mk cs) = some (made l cs) := by
 unfold word_made.f made strings_Trim.f
 rw [mk_toList, mk_size, mk_size, mk_data, mk_data]
 by_cases h : l = []
 ·
  rw [if_pos h]
  simp [h]
 ·
  rw [if_neg h]
  by_cases h2 : (l.length : Int) ≤ 12
  ·
   rw [if_pos h2, if_pos ⟨by omega, by omega, ha⟩]
   simp only [Option.bind_some]
   have h3 : (⟨(Lib.trimS l cs).toArray⟩ : ByteArray) = mk (Lib.trimS l cs) := rfl
   rw [h3, mk_toList, decide_eq_true h, decide_eq_true (show l.length ≤ 12 by omega), Bool.true_and, Bool.true_and]
   congr 1
   rw [Bool.eq_iff_iff, beq_iff_eq]
   exact trim_nil l cs
  ·
   rw [if_neg h2, decide_eq_false (show ¬ l.length ≤ 12 by omega)]
   simp
def isVal (l : T) : Bool := decide (l ≠ []) && (decide (l.length ≤ 12) && l.all okV)
def isName (l : T) : Bool := decide (l ≠ []) && (decide (l.length ≤ 12) && l.all okN) && (match l with | [] => false | x :: _ => okS x)
theorem value_eq {l : T} (hl : l.length ≤ 100000) : word_Value.f (mk l) = some (isVal l) := by
 unfold word_Value.f
 have h : word_made.f (mk l) (mk valL) = some (made l valL) := made_eq hl (by decide) (by decide +kernel)
 have h2 : made l valL = isVal l := by
  unfold made isVal
  simp only [val_ok]
 rw [h2] at h
 have h3 : ∀ x, x = some (isVal l) → (x.bind fun t106 => (some t106 : Option Bool)) = some (isVal l) := fun x hx => by rw [hx]; rfl
 exact h3 _ h
theorem name_eq {l : T} (hl : l.length ≤ 100000) : word_Name.f (mk l) = some (isName l) := by
 unfold word_Name.f
 have h : word_made.f (mk l) (mk nameL) = some (made l nameL) := made_eq hl (by decide) (by decide +kernel)
 have h2 : made l nameL = (decide (l ≠ []) && (decide (l.length ≤ 12) && l.all okN)) := by
  unfold made
  simp only [name_ok]
 rw [h2] at h
 have h' : word_made.f (mk l) (⟨#[97, 98, 99, 100, 101, 102, 103, 104, 105, 106, 107, 108, 109, 110, 111, 112, 113, 114, 115, 116, 117, 118, 119, 120, 121, 122, 48, 49, 50, 51, 52, 53, 54, 55, 56, 57, 95]⟩ : ByteArray) = some (decide (l ≠ []) && (decide (l.length ≤ 12) && l.all okN)) := h
 rw [h']
 simp only [Option.bind_some]
 unfold isName
 by_cases c : (decide (l ≠ []) && (decide (l.length ≤ 12) && l.all okN)) = true
 ·
  rw [if_pos c, c, Bool.true_and]
  cases l with
  | nil => simp at c
  | cons x l =>
   rw [mk_size, if_pos (by simp only [List.length_cons]; omega)]
   have hb : bt (mk (x :: l)) 0 = (x.toNat : Int) := bt_mk (l := x :: l) (i := 0) (by simp)
   rw [hb]
   simp only [strings_IndexByte.f, Option.bind_some, byte_back]
   congr 1
   exact small_ok x
 ·
  rw [if_neg c, Bool.eq_false_iff.mpr c, Bool.false_and]
theorem rsmall_eq (b : UInt8) : r02_small.f (b.toNat : Int) = some (okS b) := by
 unfold r02_small.f okS
 by_cases h : 97 ≤ b.toNat
 ·
  rw [if_pos (by omega), decide_eq_true h, Bool.true_and]
  exact congrArg some (decide_eq_decide.mpr (by omega))
 ·
  rw [if_neg (by omega), decide_eq_false h, Bool.false_and]
theorem rdigit_eq (b : UInt8) : r02_digit.f (b.toNat : Int) = some (okD b) := by
 unfold r02_digit.f okD
 by_cases h : 48 ≤ b.toNat
 ·
  rw [if_pos (by omega), decide_eq_true h, Bool.true_and]
  exact congrArg some (decide_eq_decide.mpr (by omega))
 ·
  rw [if_neg (by omega), decide_eq_false h, Bool.false_and]
theorem rvalue_l0 {l : T} (hl : l.length ≤ 100000) (d : Nat) : ∀ (i k : Nat), i + d = l.length → d < k → r02_Value.l0 k (mk l) (i : Int) = some ((l.drop i).all okV) := by
 induction d with
 | zero =>
  intro i k hi hk
  obtain ⟨k, rfl⟩ := succ_of hk
  simp only [r02_Value.l0]
  rw [mk_size, if_neg (by omega), List.drop_of_length_le (by omega)]
  rfl
 | succ d ih =>
  intro i k hi hk
  obtain ⟨k, rfl⟩ := succ_of hk
  have hlt : i < l.length := by omega
  simp only [r02_Value.l0]
  rw [mk_size, if_pos (by omega), if_pos (by omega), bt_mk hlt, rsmall_eq, w64s (by omega), ih (i + 1) k (by omega) (by omega), drop_at hlt, List.all_cons, rdigit_eq]
  simp only [Option.bind_some]
  unfold okV okN
  by_cases h1 : okS l[i] = true
  ·
   rw [if_pos h1, h1]; simp
  ·
   rw [if_neg h1, Bool.eq_false_iff.mpr h1, Bool.false_or]
   by_cases h2 : okD l[i] = true
   ·
    rw [if_pos h2, h2]; simp
   ·
    rw [if_neg h2, Bool.eq_false_iff.mpr h2, Bool.false_or]
    by_cases h3 : l[i].toNat = 95
    ·
     rw [if_pos (by omega), decide_eq_true h3]; simp
    ·
     rw [if_neg (by omega), decide_eq_false h3, Bool.false_or]
     by_cases h4 : l[i].toNat = 45
     ·
      rw [if_pos (by omega), decide_eq_true h4]; simp
     ·
      rw [if_neg (by omega), decide_eq_false h4, Bool.false_or]
      by_cases h5 : l[i].toNat = 46
      ·
       rw [if_pos (by omega), decide_eq_true h5]; simp
      ·
       rw [if_neg (by omega), decide_eq_false h5]; simp
theorem rvalue_eq {l : T} (hl : l.length ≤ 100000) (k : Nat) (hk : l.length + 1 < k) : r02_Value.f k (mk l) = some (isVal l) := by
 obtain ⟨k, rfl⟩ := succ_of hk
 have h0 := rvalue_l0 hl l.length 0 k (by omega) (by omega)
 rw [show ((0 : Nat) : Int) = 0 from rfl, List.drop_zero] at h0
 unfold r02_Value.f isVal
 simp only [r02_Value.j0]
 rw [mk_size, h0]
 by_cases h1 : l = []
 ·
  rw [if_pos (by simp [h1]), if_pos trivial]
  simp [h1]
 ·
  have : l.length ≠ 0 := fun e => h1 (List.eq_nil_of_length_eq_zero e)
  rw [if_neg (by omega), decide_eq_true h1, Bool.true_and]
  by_cases h2 : l.length ≤ 12
  ·
   rw [if_neg (by simp; omega), decide_eq_true h2, Bool.true_and]
  ·
   rw [if_pos (by simp; omega), decide_eq_false h2, Bool.false_and]
theorem rname_l0 {l : T} (hl : l.length ≤ 100000) (d : Nat) : ∀ (i k : Nat), i + d = l.length → d < k → r02_Name.l0 k (mk l) (i : Int) = some ((l.drop i).all okN) := by
 induction d with
 | zero =>
  intro i k hi hk
  obtain ⟨k, rfl⟩ := succ_of hk
  simp only [r02_Name.l0]
  rw [mk_size, if_neg (by omega), List.drop_of_length_le (by omega)]
  rfl
 | succ d ih =>
  intro i k hi hk
  obtain ⟨k, rfl⟩ := succ_of hk
  have hlt : i < l.length := by omega
  simp only [r02_Name.l0]
  rw [mk_size, if_pos (by omega), if_pos (by omega), bt_mk hlt, rsmall_eq, w64s (by omega), ih (i + 1) k (by omega) (by omega), drop_at hlt, List.all_cons, rdigit_eq]
  simp only [Option.bind_some]
  unfold okN
  by_cases h1 : okS l[i] = true
  ·
   rw [if_pos h1, h1]; simp
  ·
   rw [if_neg h1, Bool.eq_false_iff.mpr h1, Bool.false_or]
   by_cases h2 : okD l[i] = true
   ·
    rw [if_pos h2, h2]; simp
   ·
    rw [if_neg h2, Bool.eq_false_iff.mpr h2, Bool.false_or]
    by_cases h3 : l[i].toNat = 95
    ·
     rw [if_pos (by omega), decide_eq_true h3]; simp
    ·
     rw [if_neg (by omega), decide_eq_false h3]; simp
theorem rname_eq {l : T} (hl : l.length ≤ 100000) (k : Nat) (hk : l.length + 1 < k) : r02_Name.f k (mk l) = some (isName l) := by
 obtain ⟨k, rfl⟩ := succ_of hk
 have h0 := rname_l0 hl l.length 0 k (by omega) (by omega)
 rw [show ((0 : Nat) : Int) = 0 from rfl, List.drop_zero] at h0
 unfold r02_Name.f isName
 simp only [r02_Name.j0]
 rw [mk_size, h0]
 cases l with
 | nil => rw [if_pos (by simp), if_pos trivial]; simp
 | cons x l =>
  have hb : bt (mk (x :: l)) 0 = (x.toNat : Int) := bt_mk (l := x :: l) (i := 0) (by simp)
  rw [if_neg (by simp only [List.length_cons]; omega), if_pos (show (0 : Int) < ((x :: l).length : Int) by simp only [List.length_cons]; omega), hb, rsmall_eq]
  simp only [Option.bind_some]
  rw [decide_eq_true (show x :: l ≠ [] by simp), Bool.true_and]
  by_cases h2 : (x :: l).length ≤ 12
  ·
   rw [if_neg (by omega), decide_eq_true h2, Bool.true_and]
   cases okS x with
   | true => simp
   | false => simp
  ·
   rw [if_pos (by omega), if_pos trivial, decide_eq_false h2]
   simp
end Go.Proofs.YteckidchnicjeaaGreatDoor.Pure
end
section
namespace Go.Proofs.YteckidchnicjeaaGreatDoor.Pure
open Go.RowKit Go.Proofs.YteckidchnicjeaaGreatDoor.X Go.Proofs.YteckidchnicjeaaGreatDoorW.PrintWords Go.Proofs.YteckidchnicjeaaGreatDoorW.PrintLast Go.Proofs.YteckidchnicjeaaGreatDoorW.PrintMore Go.Proofs.YteckidchnicjeaaGreatDoor.Aid Go.Proofs.YteckidchnicjeaaGreatDoor.Bytes
theorem join_glue (x : T) (L : List T) (hL : L ≠ []) (s : T) : Lib.join (glue x L) s = x ++ Lib.join L s := by
 cases L with
 | nil => exact absurd rfl hL
 | cons h t => rw [glue, Lib.join_cons, Lib.join_cons, List.append_assoc]
theorem join_spl (c : UInt8) (l : T) : Lib.join (spl c l) [c] = l := by
 induction l with
 | nil => rfl
 | cons x l ih =>
  rw [spl_cons]
  by_cases h : x = c
  ·
   rw [if_pos h]
   have hne := spl_ne c l
   cases hs : spl c l with
   | nil => exact absurd hs hne
   | cons y L =>
    rw [hs, Lib.join_cons] at ih
    rw [Lib.join_cons, Lib.joinTail, List.map_cons, List.flatten_cons, ← Lib.joinTail, List.nil_append, h, List.append_assoc, ih]
    rfl
  ·
   rw [if_neg h, join_glue [x] _ (spl_ne c l), ih]
   rfl
theorem spl_no (c : UInt8) (x : T) (h : c ∉ x) : spl c x = [x] := by
 induction x with
 | nil => rfl
 | cons y x ih =>
  rw [List.mem_cons, not_or] at h
  rw [spl_cons, if_neg (fun e => h.1 e.symm), ih h.2]
  rfl
theorem spl_app (c : UInt8) (x y : T) (h : c ∉ x) : spl c (x ++ c :: y) = x :: spl c y := by
 induction x with
 | nil => rw [List.nil_append, spl_cons, if_pos rfl]
 | cons z x ih =>
  rw [List.mem_cons, not_or] at h
  rw [List.cons_append, spl_cons, if_neg (fun e => h.1 e.symm), ih h.2]
  rfl
theorem spl_join (c : UInt8) : ∀ (L : List T), L ≠ [] → (∀ x ∈ L, c ∉ x) → spl c (Lib.join L [c]) = L
 | [], h, _ => absurd rfl h
 | [x], _, h => by rw [Lib.join_one, spl_no c x (h x List.mem_cons_self)]
 | x :: y :: L, _, h => by
  have ih := spl_join c (y :: L) (by simp) (fun z hz => h z (List.mem_cons_of_mem _ hz))
  rw [Lib.join_cons] at ih
  rw [Lib.join_cons, tail_cons, List.append_assoc, List.singleton_append, spl_app c x _ (h x List.mem_cons_self), ih]
theorem rsplit_l0 (c : UInt8) {l : T} (hl : l.length ≤ 20000) (d : Nat) : ∀ (i from_ k : Nat) (acc : List T), i + d = l.length → from_ ≤ i → d < k → acc.length ≤ i →
 r02_Split.l0 k (mk l) (c.toNat : Int) (acc.map mk) (from_ : Int) (i : Int) = some ((acc ++ glue ((l.drop from_).take (i - from_)) (spl c (l.drop i))).map mk) := by
 induction d with
 | zero =>
  intro i f k acc hi hf hk ha
  obtain ⟨k, rfl⟩ := succ_of hk
  simp only [r02_Split.l0]
  have he := mk_from l f
  rw [mk_size] at he
  rw [mk_size, if_neg (by omega), if_pos (by omega), if_pos (by omega), List.length_map, if_pos (by omega), Int.toNat_natCast, he, List.drop_of_length_le (show l.length ≤ i by omega), List.take_of_length_le (by rw [List.length_drop]; omega)]
  simp [spl, glue]
 | succ d ih =>
  intro i f k acc hi hf hk ha
  obtain ⟨k, rfl⟩ := succ_of hk
  have hlt : i < l.length := by omega
  have hd : l.drop i = l[i] :: l.drop (i + 1) := drop_at hlt
  have hm : (acc.map mk) ++ [mk ((l.drop f).take (i - f))] = (acc ++ [(l.drop f).take (i - f)]).map mk := by simp
  have h1 := ih (i + 1) (i + 1) k (acc ++ [(l.drop f).take (i - f)]) (by omega) (Nat.le_refl _) (by omega) (by rw [List.length_append, List.length_singleton]; omega)
  have h2 := ih (i + 1) f k acc (by omega) (by omega) (by omega) (by omega)
  simp only [r02_Split.l0]
  rw [mk_size, if_pos (by omega), if_pos (by omega), bt_mk hlt, w64s (by omega), h2, hd, spl_cons]
  by_cases h : l[i] = c
  ·
   rw [if_pos (byte_eq.mpr h), if_pos h, if_pos (by omega), if_pos (by omega), if_pos (by omega), List.length_map, if_pos (by omega), Int.toNat_natCast, Int.toNat_natCast, mk_extract, hm, h1, Nat.sub_self, List.take_zero, glue_nil (spl_ne c _)]
   simp [glue]
  ·
   rw [if_neg (fun e => h (byte_eq.mp e)), if_neg h, glue_glue]
   have ht : (l.drop f).take (i + 1 - f) = (l.drop f).take (i - f) ++ [l[i]] := by
    have hj : i - f < (l.drop f).length := by rw [List.length_drop]; omega
    rw [show i + 1 - f = (i - f) + 1 by omega, take_at hj, List.getElem_drop]
    simp [show f + (i - f) = i by omega]
   rw [ht]
theorem rsplit_eq (c : UInt8) {l : T} (hl : l.length ≤ 20000) (k : Nat) (hk : 20010 < k) : r02_Split.f k (mk l) (c.toNat : Int) = some ((spl c l).map mk) := by
 have h := rsplit_l0 c hl l.length 0 0 k [] (by omega) (Nat.le_refl _) (by omega) (Nat.le_refl _)
 rw [List.drop_zero, Nat.sub_self, List.take_zero, glue_nil (spl_ne c l)] at h
 exact h
theorem spl_short (c : UInt8) : ∀ (l : T), ∀ p ∈ spl c l, p.length ≤ l.length
 | [], p, hp => by
  rw [show spl c [] = [[]] from rfl, List.mem_singleton] at hp
  rw [hp]
  exact Nat.le_refl _
 | x :: l, p, hp => by
  rw [spl_cons] at hp
  by_cases h : x = c
  ·
   rw [if_pos h] at hp
   rcases List.mem_cons.mp hp with rfl | hp
   ·
    exact Nat.zero_le _
   ·
    have := spl_short c l p hp
    rw [List.length_cons]
    omega
  ·
   rw [if_neg h] at hp
   have hne := spl_ne c l
   cases hq : spl c l with
   | nil => exact absurd hq hne
   | cons y L =>
    rw [hq] at hp
    unfold glue at hp
    rcases List.mem_cons.mp hp with rfl | hp
    ·
     have := spl_short c l y (by rw [hq]; exact List.mem_cons_self)
     simp only [List.length_append, List.length_cons, List.length_nil]
     omega
    ·
     have := spl_short c l p (by rw [hq]; exact List.mem_cons_of_mem _ hp)
     rw [List.length_cons]
     omega
end Go.Proofs.YteckidchnicjeaaGreatDoor.Pure
end
section
namespace Go.Proofs.YteckidchnicjeaaGreatDoor.Decs
open Go.Proofs.YteckidchnicjeaaGreatDoor.Bytes
abbrev T := List UInt8
def Dig (c : UInt8) : Prop := 48 ≤ c.toNat ∧ c.toNat ≤ 57
instance (c : UInt8) : Decidable (Dig c) := inferInstanceAs (Decidable (_ ∧ _))
def valF (acc : Nat) : T → Nat
 | [] => acc
 | c :: r => valF (acc * 10 + (c.toNat - 48)) r
def val (l : T) : Nat := valF 0 l
theorem valF_snoc (c : UInt8) : ∀ (l : T) (acc : Nat), valF acc (l ++ [c]) = valF acc l * 10 + (c.toNat - 48)
 | [], _ => rfl
 | _ :: l, _ => valF_snoc c l _
theorem valF_ge : ∀ (l : T) (acc : Nat), acc ≤ valF acc l
 | [], _ => Nat.le_refl _
 | c :: l, acc => by
  have := valF_ge l (acc * 10 + (c.toNat - 48))
  unfold valF
  omega
theorem d_small {u : Nat} (h : u < 10) : Lib.decDigits u = [UInt8.ofNat (48 + u)] := by rw [Lib.decDigits, dif_pos h]
theorem d_big {u : Nat} (h : ¬ u < 10) : Lib.decDigits u = Lib.decDigits (u / 10) ++ [UInt8.ofNat (48 + u % 10)] := by rw [Lib.decDigits, dif_neg h]
theorem ofNat_dig {d : Nat} (h : d < 10) : (UInt8.ofNat (48 + d)).toNat = 48 + d := by
 rw [UInt8.toNat_ofNat']
 omega
theorem dec_facts : ∀ (n u : Nat), u < n → (∀ c ∈ Lib.decDigits u, Dig c) ∧ Lib.decDigits u ≠ [] ∧ ((Lib.decDigits u).head? = some 48 → u = 0) ∧ val (Lib.decDigits u) = u
 | 0, _, h => by omega
 | n + 1, u, h => by
  by_cases hu : u < 10
  ·
   rw [d_small hu]
   have e := ofNat_dig hu
   refine ⟨fun c hc => ?_, by simp, fun hh => ?_, ?_⟩
   ·
    rw [List.mem_singleton] at hc
    subst hc
    unfold Dig
    omega
   ·
    simp only [List.head?_cons, Option.some.injEq] at hh
    have := congrArg UInt8.toNat hh
    rw [e] at this
    have h48 : (48 : UInt8).toNat = 48 := rfl
    omega
   ·
    unfold val valF valF
    rw [e]
    omega
  ·
   rw [d_big hu]
   obtain ⟨h1, h2, h3, h4⟩ := dec_facts n (u / 10) (by omega)
   have e := ofNat_dig (show u % 10 < 10 by omega)
   refine ⟨fun c hc => ?_, by simp, fun hh => ?_, ?_⟩
   ·
    rw [List.mem_append, List.mem_singleton] at hc
    rcases hc with hc | hc
    ·
     exact h1 c hc
    ·
     subst hc
     unfold Dig
     omega
   ·
    cases hd : Lib.decDigits (u / 10) with
    | nil => exact absurd hd h2
    | cons x r =>
     rw [hd] at hh h3
     have := h3 (by simpa using hh)
     omega
   ·
    unfold val at h4 ⊢
    rw [valF_snoc, h4, e]
    omega
theorem dec_dig (u : Nat) : ∀ c ∈ Lib.decDigits u, Dig c := (dec_facts (u + 1) u (by omega)).1
theorem dec_ne (u : Nat) : Lib.decDigits u ≠ [] := (dec_facts (u + 1) u (by omega)).2.1
theorem dec_head (u : Nat) (h : (Lib.decDigits u).head? = some 48) : u = 0 := (dec_facts (u + 1) u (by omega)).2.2.1 h
theorem dec_val (u : Nat) : val (Lib.decDigits u) = u := (dec_facts (u + 1) u (by omega)).2.2.2
def Num (l : T) : Prop := l ≠ [] ∧ (l.head? = some 48 → l = [48]) ∧ ∀ c ∈ l, Dig c
theorem num_dec (u : Nat) : Num (Lib.decDigits u) := ⟨dec_ne u, fun h => by rw [dec_head u h, d_small (by omega)]; rfl, dec_dig u⟩
theorem dig_back {c : UInt8} (h : Dig c) : UInt8.ofNat (48 + (c.toNat - 48)) = c := by
 apply UInt8.toNat_inj.1
 rw [ofNat_dig (by unfold Dig at h; omega)]
 unfold Dig at h
 omega
theorem val_pos : ∀ (l : T), Num l → l ≠ [48] → 1 ≤ val l
 | [], h, _ => absurd rfl h.1
 | c :: r, h, hn => by
  have hd := h.2.2 c List.mem_cons_self
  have hc : c ≠ 48 := fun e => hn (h.2.1 (by rw [e]; rfl))
  have h2 : c.toNat ≠ 48 := fun e => hc (UInt8.toNat_inj.1 e)
  have := valF_ge r (0 * 10 + (c.toNat - 48))
  unfold Dig at hd
  unfold val valF
  omega
theorem dec_of : ∀ (n : Nat) (l : T), l.length ≤ n → Num l → Lib.decDigits (val l) = l
 | 0, l, h, hn => absurd (List.eq_nil_of_length_eq_zero (by omega)) hn.1
 | n + 1, l, h, hn => by
  obtain ⟨r, c, rfl⟩ : ∃ r c, l = r ++ [c] := ⟨l.dropLast, l.getLast hn.1, (List.dropLast_concat_getLast hn.1).symm⟩
  have hd := hn.2.2 c (by simp)
  by_cases hr : r = []
  ·
   subst hr
   have e : val ([] ++ [c]) = c.toNat - 48 := by unfold val; rw [List.nil_append]; unfold valF valF; omega
   rw [e, d_small (by unfold Dig at hd; omega), dig_back hd]
   rfl
  ·
   have hnr : Num r := by
    refine ⟨hr, fun hh => ?_, fun x hx => hn.2.2 x (List.mem_append_left _ hx)⟩
    exfalso
    have h1 := hn.2.1 (by
     cases r with
     | nil => exact absurd rfl hr
     | cons x s => simpa using hh)
    have h2 := congrArg List.length h1
    rw [List.length_append, List.length_singleton, List.length_singleton] at h2
    exact hr (List.eq_nil_of_length_eq_zero (by omega))
   have ih := dec_of n r (by rw [List.length_append, List.length_singleton] at h; omega) hnr
   have hp : r ≠ [48] := fun e => by
    subst e
    have h1 := hn.2.1 rfl
    have h2 := congrArg List.length h1
    simp at h2
   have h1 := val_pos r hnr hp
   have e : val (r ++ [c]) = val r * 10 + (c.toNat - 48) := valF_snoc c r 0
   unfold Dig at hd
   rw [e, d_big (by omega), show (val r * 10 + (c.toNat - 48)) / 10 = val r by omega, show (val r * 10 + (c.toNat - 48)) % 10 = c.toNat - 48 by omega, ih, dig_back hd]
theorem parseM {M : Nat} (hM : M = 18446744073709551615) : ∀ (l : T) (acc : Nat), (∀ c ∈ l, Dig c) → acc ≤ M → Lib.parseUintM M acc l = if valF acc l ≤ M then .ok (valF acc l) else .range
 | [], acc, _, ha => by unfold Lib.parseUintM valF; rw [if_pos ha]
 | c :: r, acc, hd, ha => by
  have hc := hd c List.mem_cons_self
  have hr : ∀ x ∈ r, Dig x := fun x hx => hd x (List.mem_cons_of_mem _ hx)
  have hge := valF_ge r (acc * 10 + (c.toNat - 48))
  unfold Lib.parseUintM
  rw [if_pos (show 48 ≤ c.toNat ∧ c.toNat ≤ 57 from hc)]
  have ev : valF acc (c :: r) = valF (acc * 10 + (c.toNat - 48)) r := rfl
  rw [ev]
  by_cases h1 : 1844674407370955162 ≤ acc
  ·
   rw [if_pos h1, if_neg (by omega)]
  ·
   rw [if_neg h1]
   by_cases h2 : M < acc * 10 + (c.toNat - 48)
   ·
    rw [if_pos h2, if_neg (by omega)]
   ·
    rw [if_neg h2]
    exact parseM hM r _ hr (by omega)
end Go.Proofs.YteckidchnicjeaaGreatDoor.Decs
end
section
namespace Go.Proofs.YteckidchnicjeaaGreatDoor.Pure
open Go.RowKit Go.Proofs.YteckidchnicjeaaGreatDoor.X Go.Proofs.YteckidchnicjeaaGreatDoorW.PrintWords Go.Proofs.YteckidchnicjeaaGreatDoorW.PrintLast Go.Proofs.YteckidchnicjeaaGreatDoorW.PrintMore Go.Proofs.YteckidchnicjeaaGreatDoor.Aid Go.Proofs.YteckidchnicjeaaGreatDoor.Bytes Go.Proofs.YteckidchnicjeaaGreatDoor.Decs
instance (l : T) : Decidable (Num l) := inferInstanceAs (Decidable (_ ∧ _ ∧ _))
def digL : T := [48, 49, 50, 51, 52, 53, 54, 55, 56, 57]
theorem dig_ok (b : UInt8) : digL.contains b = decide (Dig b) := byte_all (p := fun b => digL.contains b = decide (Dig b)) (by decide +kernel) b
def strip (l : T) : T := if l.head? = some 45 then l.drop 1 else l
theorem prefix_eq (l : T) : strings_TrimPrefix.f (mk l) (⟨#[45]⟩ : ByteArray) = some (mk (strip l)) := by
 unfold strings_TrimPrefix.f stringslite_TrimPrefix.f stringslite_HasPrefix.f strip
 have e1 : ((⟨#[45]⟩ : ByteArray).size : Int) = 1 := rfl
 rw [e1]
 cases l with
 | nil => rfl
 | cons c r =>
  have es : ((mk (c :: r)).size : Int) = (r.length : Int) + 1 := by rw [mk_size, List.length_cons]; omega
  have ei : ((1 : Int)).toNat = 1 := rfl
  have et : (⟨#[45]⟩ : ByteArray).toList = [45] := mk_toList [45]
  rw [es, if_pos (by omega), if_pos (by omega), if_pos (by omega), ei, mk_upto, mk_toList, et, Option.bind_some]
  by_cases h : c = 45
  ·
   subst h
   rw [if_pos (by rfl), if_pos (by omega), if_pos (by omega), mk_from]
   rfl
  ·
   rw [if_neg (by simpa using h)]
   simp [h]
theorem trim_eq {l : T} (hl : l.length ≤ 100000) : strings_Trim.f (mk l) (⟨#[48, 49, 50, 51, 52, 53, 54, 55, 56, 57]⟩ : ByteArray) = some (mk (Lib.trimS l digL)) := by
 unfold strings_Trim.f
 rw [show (⟨#[48, 49, 50, 51, 52, 53, 54, 55, 56, 57]⟩ : ByteArray) = mk digL from rfl, mk_size, mk_size, mk_data, mk_data, if_pos ⟨by omega, by decide, by decide +kernel⟩]
 rfl
theorem trim_dig (l : T) : ((mk (Lib.trimS l digL)).toList == ([] : T)) = decide (∀ c ∈ l, Dig c) := by
 rw [mk_toList, Bool.eq_iff_iff, beq_iff_eq, trim_nil, decide_eq_true_iff, List.all_eq_true]
 constructor
 ·
  intro h c hc
  have := h c hc
  rw [dig_ok] at this
  exact of_decide_eq_true this
 ·
  intro h c hc
  rw [dig_ok]
  exact decide_eq_true (h c hc)
theorem digits_eq {l : T} (hl : l.length ≤ 100000) : sat_digits.f (mk l) = some (decide (Num l)) := by
 unfold sat_digits.f
 rw [trim_eq hl, Option.bind_some, trim_dig, mk_toList]
 cases l with
 | nil => rfl
 | cons c r =>
  have hb : bt (mk (c :: r)) 0 = (c.toNat : Int) := bt_mk (l := c :: r) (i := 0) (by simp)
  rw [if_neg (by simp), mk_size, if_pos (by rw [List.length_cons]; omega), hb]
  by_cases h : c = 48
  ·
   subst h
   rw [if_pos (by rfl)]
   by_cases h2 : (48 :: r : T) = [48]
   ·
    rw [if_pos h2, h2]
    rfl
   ·
    rw [if_neg h2]
    congr 1
    symm
    exact decide_eq_false fun hn => h2 (hn.2.1 rfl)
  ·
   have h' : ¬ (c.toNat : Int) = 48 := fun e => h (byte_eq.mp (show (c.toNat : Int) = ((48 : UInt8).toNat : Int) from e))
   rw [if_neg h']
   congr 1
   apply decide_eq_decide.mpr
   constructor
   ·
    intro hd
    exact ⟨by simp, fun e => absurd (by simpa using e) h, hd⟩
   ·
    intro hn
    exact hn.2.2
def finS (neg : Bool) (u : Nat) : Int × Int :=
 if neg = true then (if u ≤ 9223372036854775808 then (-(u : Int), 0) else (0, 3)) else (if u < 9223372036854775808 then ((u : Int), 0) else (0, 3))
theorem finS_t (u : Nat) : finS true u = if u ≤ 9223372036854775808 then (-(u : Int), 0) else (0, 3) := rfl
theorem finS_f (u : Nat) : finS false u = if u < 9223372036854775808 then ((u : Int), 0) else (0, 3) := rfl
def readS (l : T) : Int × Int :=
 if Num (strip l) ∧ l ≠ [45, 48] then finS (decide (l.head? = some 45)) (val (strip l)) else (0, 2)
theorem parse_dig {l : T} (h : Num l) : Lib.parseUintB 64 l = if val l ≤ 18446744073709551615 then .ok (val l) else .range := by
 unfold Lib.parseUintB
 rw [if_neg h.1, parseM (by decide) l 0 h.2.2 (by decide)]
 rfl
def endI : Lib.NumEnd Int → Int × Int
 | .ok v => (v, 0)
 | _ => (0, 3)
theorem pb_neg (r : T) : Lib.parseIntB 64 (45 :: r) = (match Lib.parseUintB 64 r with | .ok u => if 2 ^ 63 < u then Lib.NumEnd.range else .ok (-(u : Int)) | .range => .range | _ => Lib.NumEnd.syntax) := by
 unfold Lib.parseIntB
 have e45 : (45 : UInt8).toNat = 45 := rfl
 simp only [e45]
 rw [if_pos (.inr trivial)]
 cases Lib.parseUintB 64 r with
 | ok u =>
  simp only []
  rw [if_neg (fun h => h.1 trivial)]
  simp
 | range => rfl
 | _ => rfl
theorem pb_pos {c : UInt8} {r : T} (h1 : c.toNat ≠ 43) (h2 : c.toNat ≠ 45) : Lib.parseIntB 64 (c :: r) = (match Lib.parseUintB 64 (c :: r) with | .ok u => if 2 ^ 63 ≤ u then Lib.NumEnd.range else .ok (u : Int) | .range => .range | _ => Lib.NumEnd.syntax) := by
 unfold Lib.parseIntB
 simp only []
 rw [if_neg (fun h => h.elim h1 h2)]
 cases Lib.parseUintB 64 (c :: r) with
 | ok u => simp [h2]
 | range => rfl
 | _ => rfl
theorem parseI {l : T} (h : Num (strip l)) : endI (Lib.parseIntB 64 l) = finS (decide (l.head? = some 45)) (val (strip l)) := by
 cases l with
 | nil => exact absurd rfl h.1
 | cons c r =>
  by_cases hc : c = 45
  ·
   subst hc
   have es : strip (45 :: r) = r := rfl
   rw [es] at h ⊢
   have ed : decide ((45 :: r : T).head? = some 45) = true := rfl
   rw [pb_neg, parse_dig h, ed, finS_t]
   by_cases h1 : val r ≤ 18446744073709551615
   ·
    rw [if_pos h1]
    simp only []
    by_cases h2 : val r ≤ 9223372036854775808
    ·
     rw [if_pos h2, if_neg (by omega)]
     rfl
    ·
     rw [if_neg h2, if_pos (by omega)]
     rfl
   ·
    rw [if_neg h1, if_neg (by omega)]
    rfl
  ·
   have es : strip (c :: r) = c :: r := by unfold strip; rw [if_neg (by simpa using hc)]
   rw [es] at h ⊢
   have hd := h.2.2 c List.mem_cons_self
   unfold Dig at hd
   have ed : decide ((c :: r).head? = some 45) = false := decide_eq_false (by simpa using hc)
   rw [pb_pos (by omega) (by omega), parse_dig h, ed, finS_f]
   by_cases h1 : val (c :: r) ≤ 18446744073709551615
   ·
    rw [if_pos h1]
    simp only []
    by_cases h2 : val (c :: r) < 9223372036854775808
    ·
     rw [if_pos h2, if_neg (by omega)]
     rfl
    ·
     rw [if_neg h2, if_pos (by omega)]
     rfl
   ·
    rw [if_neg h1, if_neg (by omega)]
    rfl
theorem strip_len (l : T) : (strip l).length ≤ l.length := by
 unfold strip
 split
 ·
  rw [List.length_drop]; omega
 ·
  omega
theorem read_eq {l : T} (hl : l.length ≤ 100000) : sat_Read.f (mk l) = some (readS l) := by
 unfold sat_Read.f readS
 rw [prefix_eq, Option.bind_some, digits_eq (by have := strip_len l; omega), Option.bind_some, mk_toList, mk_size, mk_data]
 by_cases h : Num (strip l)
 ·
  rw [if_pos (decide_eq_true h)]
  by_cases h2 : l = [45, 48]
  ·
   rw [if_pos h2, if_neg (fun h => h.2 h2)]
  ·
   rw [if_neg h2, if_pos (show l.length ≤ 140737488355328 by omega), if_pos ⟨h, h2⟩, ← parseI h]
   cases Lib.parseIntB 64 l with
   | ok v => rfl
   | _ => rfl
 ·
  rw [if_neg (by simpa using h), if_neg (fun g => h g.1)]
def parseS (l : T) : Int × Bool × Int :=
 if l.getLast? = some 33 then (if (readS l.dropLast).2 = 0 then ((readS l.dropLast).1, true, 0) else (0, false, (readS l.dropLast).2))
 else (if (readS l).2 = 0 then ((readS l).1, false, 0) else (0, false, (readS l).2))
theorem parse_33 (r : T) : parseS (r ++ [33]) = if (readS r).2 = 0 then ((readS r).1, true, 0) else (0, false, (readS r).2) := by
 unfold parseS
 rw [if_pos (by simp), List.dropLast_concat]
theorem parse_o {l : T} (h : ¬ l.getLast? = some 33) : parseS l = if (readS l).2 = 0 then ((readS l).1, false, 0) else (0, false, (readS l).2) := by
 unfold parseS
 rw [if_neg h]
theorem last_mk (r : T) (c : UInt8) (h : (r ++ [c]).length ≤ 600) : wrap64 (((mk (r ++ [c])).size : Int) - 1) = (r.length : Int) ∧ ((mk (r ++ [c])).size : Int) = (r.length : Int) + 1 ∧ bt (mk (r ++ [c])) (r.length : Int) = (c.toNat : Int) := by
 have es : ((mk (r ++ [c])).size : Int) = (r.length : Int) + 1 := by rw [mk_size, List.length_append, List.length_singleton]; omega
 rw [List.length_append] at h
 refine ⟨by rw [es, w64 (by omega) (by omega)]; omega, es, ?_⟩
 rw [bt_mk (l := r ++ [c]) (i := r.length) (by simp)]
 simp
theorem suffix_eq (l : T) (h : l.length ≤ 600) : strings_TrimSuffix.f (mk l) (⟨#[33]⟩ : ByteArray) = some (mk (if l.getLast? = some 33 then l.dropLast else l)) := by
 unfold strings_TrimSuffix.f stringslite_TrimSuffix.f stringslite_HasSuffix.f
 have e1 : ((⟨#[33]⟩ : ByteArray).size : Int) = 1 := rfl
 rw [e1]
 rcases List.eq_nil_or_concat l with rfl | ⟨r, c, rfl⟩
 ·
  rfl
 ·
  rw [List.concat_eq_append] at h ⊢
  obtain ⟨h1, h2, _⟩ := last_mk r c h
  have et : (⟨#[33]⟩ : ByteArray).toList = [33] := mk_toList [33]
  have ex : (mk (r ++ [c])).extract r.length (mk (r ++ [c])).size = mk [c] := by rw [mk_from, List.drop_left]
  have ey : (mk (r ++ [c])).extract 0 r.length = mk r := by rw [mk_upto, List.take_left]
  have ei : ((r.length : Int)).toNat = r.length := by omega
  rw [h1, ei, ex, ey, h2, if_pos (by omega), if_pos (by omega), if_pos (by omega), mk_toList, et, Option.bind_some]
  by_cases hc : c = 33
  ·
   subst hc
   rw [if_pos (by rfl), if_pos (by omega), if_pos (by omega), if_pos (by simp), List.dropLast_concat]
   rfl
  ·
   rw [if_neg (by simpa using hc), if_neg (by simpa using hc)]
   rfl
theorem parse_eq' {l : T} (h : l.length ≤ 600) : sat_Parse.f (mk l) = some (parseS l) := by
 unfold sat_Parse.f parseS
 rw [suffix_eq l h, Option.bind_some, mk_toList, mk_toList]
 by_cases hg : l.getLast? = some 33
 ·
  rw [if_pos hg, if_pos hg, read_eq (by rw [List.length_dropLast]; omega), Option.bind_some]
  have hne : (l.dropLast != l) = true := by
   rw [bne_iff_ne]
   intro e
   have e2 := congrArg List.length e
   rw [List.length_dropLast] at e2
   have : l = [] := List.eq_nil_of_length_eq_zero (by omega)
   rw [this] at hg
   exact absurd hg (by simp)
  rw [hne]
  split <;> rfl
 ·
  rw [if_neg hg, if_neg hg, read_eq (by omega), Option.bind_some, bne_self_eq_false]
  split <;> rfl
theorem read_itoa {n : Int} (h : I64 n) : readS (Lib.itoa n) = (n, 0) := by
 unfold I64 at h
 rw [itoa_sgn]
 unfold readS sgn
 have hn := num_dec n.natAbs
 have hv := dec_val n.natAbs
 by_cases hs : n < 0
 ·
  have es : strip ([45] ++ Lib.decDigits n.natAbs) = Lib.decDigits n.natAbs := rfl
  rw [if_pos hs, es, hv, if_pos ⟨hn, fun e => by
   have e2 : Lib.decDigits n.natAbs = [48] := by simpa using e
   rw [e2] at hv
   have : val [48] = 0 := rfl
   omega⟩]
  unfold finS
  rw [if_pos (by rfl), if_pos (by omega), show -(n.natAbs : Int) = n by omega]
 ·
  rw [if_neg hs, List.nil_append]
  have hh : ¬ (Lib.decDigits n.natAbs).head? = some 45 := fun e => by
   have := hn.2.2 45 (List.mem_of_mem_head? (by rw [e]; rfl))
   exact absurd this (by decide)
  have es : strip (Lib.decDigits n.natAbs) = Lib.decDigits n.natAbs := by unfold strip; rw [if_neg hh]
  rw [es, hv, if_pos ⟨hn, fun e => hh (by rw [e]; rfl)⟩, decide_eq_false hh]
  unfold finS
  rw [if_neg (by decide), if_pos (by omega), show (n.natAbs : Int) = n by omega]
theorem itoa_last (n : Int) : ¬ (Lib.itoa n).getLast? = some 33 := by
 rw [itoa_sgn]
 intro e
 have hn := dec_ne n.natAbs
 rw [List.getLast?_append, List.getLast?_eq_some_getLast hn] at e
 have e2 : (Lib.decDigits n.natAbs).getLast hn = 33 := by simpa using e
 have := dec_dig n.natAbs _ (List.getLast_mem hn)
 rw [e2] at this
 exact absurd this (by decide)
theorem parse_txt {n : Int} (h : I64 n) (o : Bool) : parseS (txt n o) = (n, o, 0) := by
 cases o
 ·
  rw [show txt n false = Lib.itoa n from rfl, parse_o (itoa_last n), read_itoa h, if_pos rfl]
 ·
  rw [show txt n true = Lib.itoa n ++ [33] from rfl, parse_33, read_itoa h, if_pos rfl]
theorem read_back {l : T} (h : (readS l).2 = 0) : I64 (readS l).1 ∧ Lib.itoa (readS l).1 = l := by
 unfold readS at h ⊢
 by_cases hn : Num (strip l) ∧ l ≠ [45, 48]
 ·
  rw [if_pos hn] at h ⊢
  unfold finS at h ⊢
  by_cases hh : l.head? = some 45
  ·
   obtain ⟨r, rfl⟩ : ∃ r, l = 45 :: r := by
    cases l with
    | nil => exact absurd hh (by simp)
    | cons c r =>
     refine ⟨r, ?_⟩
     rw [show c = 45 by simpa using hh]
   have es : strip (45 :: r) = r := rfl
   rw [es] at hn h ⊢
   rw [if_pos (by rfl)] at h ⊢
   by_cases hv : val r ≤ 9223372036854775808
   ·
    rw [if_pos hv]
    have hp := val_pos r hn.1 (fun e => hn.2 (by rw [e]))
    refine ⟨by unfold I64; show _ ≤ -(val r : Int) ∧ -(val r : Int) ≤ _; omega, ?_⟩
    show Lib.itoa (-(val r : Int)) = _
    rw [itoa_sgn]
    unfold sgn
    rw [if_pos (by omega), show (-(val r : Int)).natAbs = val r by omega, dec_of r.length r (Nat.le_refl _) hn.1]
    rfl
   ·
    rw [if_neg hv] at h
    exact absurd h (by decide)
  ·
   have es : strip l = l := by unfold strip; rw [if_neg hh]
   rw [es] at hn h ⊢
   rw [if_neg (by simpa using hh)] at h ⊢
   by_cases hv : val l < 9223372036854775808
   ·
    rw [if_pos hv]
    refine ⟨by unfold I64; show _ ≤ (val l : Int) ∧ (val l : Int) ≤ _; omega, ?_⟩
    show Lib.itoa (val l : Int) = _
    rw [itoa_sgn]
    unfold sgn
    rw [if_neg (by omega), show ((val l : Int)).natAbs = val l by omega, dec_of l.length l (Nat.le_refl _) hn.1]
    rfl
   ·
    rw [if_neg hv] at h
    exact absurd h (by decide)
 ·
  rw [if_neg hn] at h
  exact absurd h (by decide)
theorem parse_back {l : T} (h : (parseS l).2.2 = 0) : I64 (parseS l).1 ∧ txt (parseS l).1 (parseS l).2.1 = l := by
 unfold parseS at h ⊢
 by_cases hg : l.getLast? = some 33
 ·
  rw [if_pos hg] at h ⊢
  by_cases hr : (readS l.dropLast).2 = 0
  ·
   rw [if_pos hr]
   obtain ⟨h1, h2⟩ := read_back hr
   refine ⟨h1, ?_⟩
   show txt (readS l.dropLast).1 true = l
   unfold txt
   rw [if_pos rfl, h2]
   rcases List.eq_nil_or_concat l with rfl | ⟨r, c, rfl⟩
   ·
    exact absurd hg (by decide)
   ·
    rw [List.concat_eq_append] at hg ⊢
    rw [List.dropLast_concat, show c = 33 by simpa using hg]
  ·
   rw [if_neg hr] at h
   exact absurd h hr
 ·
  rw [if_neg hg] at h ⊢
  by_cases hr : (readS l).2 = 0
  ·
   rw [if_pos hr]
   exact ⟨(read_back hr).1, (read_back hr).2⟩
  ·
   rw [if_neg hr] at h
   exact absurd h hr
end Go.Proofs.YteckidchnicjeaaGreatDoor.Pure
end
section
namespace Go.Proofs.YteckidchnicjeaaGreatDoor.Ord
open Go.Proofs.YteckidchnicjeaaGreatDoor.Bytes
abbrev T := List UInt8
abbrev less (a b : T) : Bool := Op.bytesLess a b
theorem less_cons (a b : UInt8) (x y : T) : less (a :: x) (b :: y) = (decide (a < b) || (a == b && less x y)) := rfl
theorem lt_nat {a b : UInt8} : a < b ↔ a.toNat < b.toNat := UInt8.lt_iff_toNat_lt
theorem eq_nat {a b : UInt8} : a = b ↔ a.toNat = b.toNat := ⟨fun h => by rw [h], fun h => UInt8.toNat_inj.mp h⟩
theorem less_iff (a b : UInt8) (x y : T) : less (a :: x) (b :: y) = true ↔ a.toNat < b.toNat ∨ (a = b ∧ less x y = true) := by
 rw [less_cons, Bool.or_eq_true, Bool.and_eq_true, decide_eq_true_eq, beq_iff_eq, lt_nat]
theorem less_nil (a : T) : less a [] = false := by cases a <;> rfl
theorem nil_less (b : UInt8) (y : T) : less [] (b :: y) = true := rfl
theorem irrefl : ∀ a : T, less a a = false
 | [] => rfl
 | a :: x => by
  rw [Bool.eq_false_iff]
  intro h
  rcases (less_iff a a x x).mp h with h | ⟨_, h⟩
  ·
   omega
  ·
   rw [irrefl x] at h
   cases h
theorem trans : ∀ {a b c : T}, less a b = true → less b c = true → less a c = true
 | _, [], _, h, _ => by rw [less_nil] at h; cases h
 | _, _ :: _, [], _, h => by rw [less_nil] at h; cases h
 | [], _ :: _, c :: z, _, _ => nil_less c z
 | a :: x, b :: y, c :: z, h1, h2 => by
  rw [less_iff] at h1 h2 ⊢
  rcases h1 with h1 | ⟨e1, h1⟩
  ·
   rcases h2 with h2 | ⟨e2, _⟩
   ·
    exact .inl (by omega)
   ·
    rw [eq_nat] at e2
    exact .inl (by omega)
  ·
   subst e1
   rcases h2 with h2 | ⟨e2, h2⟩
   ·
    exact .inl h2
   ·
    exact .inr ⟨e2, trans h1 h2⟩
theorem total : ∀ a b : T, less a b = true ∨ a = b ∨ less b a = true
 | [], [] => .inr (.inl rfl)
 | [], b :: y => .inl (nil_less b y)
 | a :: x, [] => .inr (.inr (nil_less a x))
 | a :: x, b :: y => by
  rw [less_iff, less_iff]
  rcases Nat.lt_trichotomy a.toNat b.toNat with h | h | h
  ·
   exact .inl (.inl h)
  ·
   have e := eq_nat.mpr h
   subst e
   rcases total x y with h | h | h
   ·
    exact .inl (.inr ⟨rfl, h⟩)
   ·
    exact .inr (.inl (by rw [h]))
   ·
    exact .inr (.inr (.inr ⟨rfl, h⟩))
  ·
   exact .inr (.inr (.inl h))
theorem asymm {a b : T} (h : less a b = true) : less b a = false := by
 rw [Bool.eq_false_iff]
 intro h2
 have := trans h h2
 rw [irrefl] at this
 cases this
theorem ne_of {a b : T} (h : less a b = true) : a ≠ b := by
 intro e
 subst e
 rw [irrefl] at h
 cases h
theorem cmp_cases : ∀ a b : T, (less a b = true ∧ Lib.compareBytes a b = -1) ∨ (a = b ∧ Lib.compareBytes a b = 0) ∨ (less b a = true ∧ Lib.compareBytes a b = 1)
 | [], [] => .inr (.inl ⟨rfl, rfl⟩)
 | [], b :: y => .inl ⟨nil_less b y, rfl⟩
 | a :: x, [] => .inr (.inr ⟨nil_less a x, rfl⟩)
 | a :: x, b :: y => by
  unfold Lib.compareBytes
  rcases Nat.lt_trichotomy a.toNat b.toNat with h | h | h
  ·
   exact .inl ⟨(less_iff a b x y).mpr (.inl h), if_pos (lt_nat.mpr h)⟩
  ·
   have e := eq_nat.mpr h
   subst e
   rw [if_neg (fun h => by rw [lt_nat] at h; omega), if_neg (fun h => by rw [lt_nat] at h; omega)]
   rcases cmp_cases x y with ⟨h1, h2⟩ | ⟨h1, h2⟩ | ⟨h1, h2⟩
   ·
    exact .inl ⟨(less_iff a a x y).mpr (.inr ⟨rfl, h1⟩), h2⟩
   ·
    exact .inr (.inl ⟨by rw [h1], h2⟩)
   ·
    exact .inr (.inr ⟨(less_iff a a y x).mpr (.inr ⟨rfl, h1⟩), h2⟩)
  ·
   refine .inr (.inr ⟨(less_iff b a y x).mpr (.inl h), ?_⟩)
   rw [if_neg (fun h2 => by rw [lt_nat] at h2; omega), if_pos (lt_nat.mpr h)]
theorem cmp_neg (a b : T) : (Lib.compareBytes a b < 0) ↔ less a b = true := by
 rcases cmp_cases a b with ⟨h1, h2⟩ | ⟨h1, h2⟩ | ⟨h1, h2⟩
 ·
  rw [h1, h2]; simp
 ·
  subst h1
  rw [h2, irrefl]; simp
 ·
  rw [h2, asymm h1]; simp
theorem cmp_zero (a b : T) : (Lib.compareBytes a b = 0) ↔ a = b := by
 rcases cmp_cases a b with ⟨h1, h2⟩ | ⟨h1, h2⟩ | ⟨h1, h2⟩
 ·
  rw [h2]
  exact ⟨fun h => absurd h (by decide), fun h => absurd h (ne_of h1)⟩
 ·
  rw [h2]
  exact ⟨fun _ => h1, fun _ => rfl⟩
 ·
  rw [h2]
  exact ⟨fun h => absurd h (by decide), fun h => absurd h.symm (ne_of h1)⟩
theorem not_less {a b c : T} (h1 : less a b = false) (h2 : less b c = false) : less a c = false := by
 rw [Bool.eq_false_iff]
 intro h
 rcases total a b with h3 | h3 | h3
 ·
  rw [h3] at h1; cases h1
 ·
  subst h3
  rw [h] at h2; cases h2
 ·
  have := trans h3 h
  rw [this] at h2; cases h2
theorem less_of {a b : T} (h1 : less b a = false) (h2 : a ≠ b) : less a b = true := by
 rcases total a b with h | h | h
 ·
  exact h
 ·
  exact absurd h h2
 ·
  rw [h] at h1; cases h1
end Go.Proofs.YteckidchnicjeaaGreatDoor.Ord
end
section
namespace Go.Proofs.YteckidchnicjeaaGreatDoor.Ord
open Go.Proofs.YteckidchnicjeaaGreatDoor.Bytes
section
variable {α : Type} (nm : α → T)
def insR (y : α) : List α → List α
 | [] => [y]
 | z :: r => if less (nm y) (nm z) = true then z :: insR y r else y :: z :: r
def isR : List α → List α → List α
 | p, [] => p.reverse
 | p, y :: r => isR (insR nm y p) r
def adj : List α → Bool
 | x :: y :: r => if nm x = nm y then true else adj (y :: r)
 | _ => false
def insL (y : α) : List α → Option (List α)
 | [] => some [y]
 | z :: r => if less (nm z) (nm y) = true then (insL y r).map (z :: ·) else if nm z = nm y then none else some (y :: z :: r)
def refS : List α → List α → Option (List α)
 | out, [] => some out
 | out, y :: r => (insL nm y out).bind fun o => refS o r
theorem insR_len (y : α) : ∀ p, (insR nm y p).length = p.length + 1
 | [] => rfl
 | z :: r => by
  unfold insR
  split
  ·
   rw [List.length_cons, insR_len y r, List.length_cons]
  ·
   rfl
theorem insR_perm (y : α) : ∀ p, (insR nm y p).Perm (y :: p)
 | [] => List.Perm.refl _
 | z :: r => by
  unfold insR
  split
  ·
   exact ((insR_perm y r).cons z).trans (List.Perm.swap y z r)
  ·
   exact List.Perm.refl _
theorem isR_perm : ∀ (r p : List α), (isR nm p r).Perm (p ++ r)
 | [], p => by
  rw [isR, List.append_nil]
  exact List.reverse_perm p
 | y :: r, p => by
  rw [isR]
  exact (isR_perm r _).trans (((insR_perm nm y p).append_right r).trans List.perm_middle.symm)
def Fall (p : List α) : Prop := p.Pairwise fun a b => less (nm a) (nm b) = false
def Drop (p : List α) : Prop := p.Pairwise fun a b => less (nm b) (nm a) = true
def Rise (p : List α) : Prop := p.Pairwise fun a b => less (nm a) (nm b) = true
theorem drop_fall {p : List α} (h : Drop nm p) : Fall nm p := h.imp fun h => asymm h
theorem drop_rise {p : List α} : Rise nm p.reverse ↔ Drop nm p := List.pairwise_reverse
theorem insR_fall (y : α) : ∀ {p : List α}, Fall nm p → Fall nm (insR nm y p)
 | [], _ => List.pairwise_singleton _ _
 | z :: r, h => by
  have h1 := List.pairwise_cons.mp h
  unfold insR
  by_cases c : less (nm y) (nm z) = true
  ·
   rw [if_pos c]
   refine List.pairwise_cons.mpr ⟨fun b hb => ?_, insR_fall y h1.2⟩
   rcases List.mem_cons.mp ((insR_perm nm y r).subset hb) with rfl | hb
   ·
    exact asymm c
   ·
    exact h1.1 b hb
  ·
   rw [if_neg c]
   have c' := Bool.eq_false_iff.mpr c
   refine List.pairwise_cons.mpr ⟨fun b hb => ?_, h⟩
   rcases List.mem_cons.mp hb with rfl | hb
   ·
    exact c'
   ·
    exact not_less c' (h1.1 b hb)
theorem isR_fall : ∀ (r : List α) {p : List α}, Fall nm p → Fall nm (isR nm p r).reverse
 | [], p, h => by
  rw [isR, List.reverse_reverse]
  exact h
 | y :: r, p, h => by
  rw [isR]
  exact isR_fall r (insR_fall nm y h)
theorem insR_drop (y : α) {p : List α} (h : Drop nm p) (hn : ∀ x ∈ p, nm x ≠ nm y) : Drop nm (insR nm y p) := by
 have h1 := insR_fall nm y (drop_fall nm h)
 have hnd : ((insR nm y p).map nm).Nodup := by
  refine (((insR_perm nm y p).map nm).nodup_iff).mpr ?_
  rw [List.map_cons]
  refine List.nodup_cons.mpr ⟨fun hm => ?_, ?_⟩
  ·
   obtain ⟨x, hx, e⟩ := List.mem_map.mp hm
   exact hn x hx e
  ·
   exact List.pairwise_map.mpr (h.imp fun h => (ne_of h).symm)
 have h2 : (insR nm y p).Pairwise fun a b => nm a ≠ nm b := List.pairwise_map.mp hnd
 exact (h1.and h2).imp fun ⟨h3, h4⟩ => less_of h3 h4.symm
theorem rise_of : ∀ {l : List α}, (l.Pairwise fun a b => less (nm b) (nm a) = false) → adj nm l = false → Rise nm l
 | [], _, _ => List.Pairwise.nil
 | [x], _, _ => List.pairwise_singleton _ _
 | x :: y :: r, h, ha => by
  have h1 := List.pairwise_cons.mp h
  unfold adj at ha
  by_cases c : nm x = nm y
  ·
   rw [if_pos c] at ha
   cases ha
  ·
   rw [if_neg c] at ha
   have ih := rise_of h1.2 ha
   have hxy := less_of (h1.1 y List.mem_cons_self) c
   refine List.pairwise_cons.mpr ⟨fun b hb => ?_, ih⟩
   rcases List.mem_cons.mp hb with rfl | hb
   ·
    exact hxy
   ·
    exact trans hxy ((List.pairwise_cons.mp ih).1 b hb)
theorem adj_of : ∀ {l : List α}, Rise nm l → adj nm l = false
 | [], _ => rfl
 | [x], _ => rfl
 | x :: y :: r, h => by
  have h1 := List.pairwise_cons.mp h
  unfold adj
  rw [if_neg (ne_of (h1.1 y List.mem_cons_self))]
  exact adj_of h1.2
theorem isR_adj {p : List α} (hp : Fall nm p) (r : List α) (hd : ¬ ((p ++ r).map nm).Nodup) : adj nm (isR nm p r) = true := by
 cases h : adj nm (isR nm p r) with
 | true => rfl
 | false =>
 exfalso
 have hf : (isR nm p r).Pairwise fun a b => less (nm b) (nm a) = false := by
  have := isR_fall nm r hp
  unfold Fall at this
  rwa [List.pairwise_reverse] at this
 have hr := rise_of nm hf h
 have hn : ((isR nm p r).map nm).Nodup := List.pairwise_map.mpr (hr.imp fun h => ne_of h)
 exact hd ((((isR_perm nm r p).map nm).nodup_iff).mp hn)
theorem insL_none {y : α} : ∀ {l : List α}, Rise nm l → (∃ x ∈ l, nm x = nm y) → insL nm y l = none
 | [], _, h => by
  obtain ⟨x, hx, _⟩ := h
  cases hx
 | z :: r, h, ⟨x, hx, e⟩ => by
  have h1 := List.pairwise_cons.mp h
  unfold insL
  rcases List.mem_cons.mp hx with rfl | hx
  ·
   rw [e, irrefl, if_neg (by decide), if_pos rfl]
  ·
   have := h1.1 x hx
   rw [e] at this
   rw [if_pos this, insL_none h1.2 ⟨x, hx, e⟩]
   rfl
theorem insL_some {y : α} : ∀ {l : List α}, Rise nm l → (∀ x ∈ l, nm x ≠ nm y) → ∃ o, insL nm y l = some o ∧ o.Perm (y :: l) ∧ Rise nm o
 | [], _, _ => ⟨[y], rfl, List.Perm.refl _, List.pairwise_singleton _ _⟩
 | z :: r, h, hn => by
  have h1 := List.pairwise_cons.mp h
  unfold insL
  by_cases c : less (nm z) (nm y) = true
  ·
   obtain ⟨o, e, hp, hr⟩ := insL_some h1.2 (fun x hx => hn x (List.mem_cons_of_mem _ hx))
   rw [if_pos c, e]
   refine ⟨z :: o, rfl, (hp.cons z).trans (List.Perm.swap y z r), List.pairwise_cons.mpr ⟨fun b hb => ?_, hr⟩⟩
   rcases List.mem_cons.mp (hp.subset hb) with rfl | hb
   ·
    exact c
   ·
    exact h1.1 b hb
  ·
   have hne := hn z List.mem_cons_self
   have hyz := less_of (Bool.eq_false_iff.mpr c) (Ne.symm hne)
   rw [if_neg c, if_neg hne]
   refine ⟨y :: z :: r, rfl, List.Perm.refl _, List.pairwise_cons.mpr ⟨fun b hb => ?_, h⟩⟩
   rcases List.mem_cons.mp hb with rfl | hb
   ·
    exact hyz
   ·
    exact trans hyz (h1.1 b hb)
theorem rise_eq {a b : List α} (ha : Rise nm a) (hb : Rise nm b) (h : a.Perm b) : a = b := by
 refine h.eq_of_pairwise (fun x y _ _ h1 h2 => ?_) ha hb
 have := asymm h1
 rw [this] at h2
 cases h2
theorem both : ∀ (r : List α) {p : List α}, Drop nm p → refS nm p.reverse r = if adj nm (isR nm p r) = true then none else some (isR nm p r)
 | [], p, h => by
  have : adj nm p.reverse = false := adj_of nm ((drop_rise nm).mpr h)
  rw [refS, isR, this]
  rfl
 | y :: r, p, h => by
  have hrise := (drop_rise nm).mpr h
  rw [refS]
  by_cases c : ∃ x ∈ p, nm x = nm y
  ·
   obtain ⟨x, hx, e⟩ := c
   rw [insL_none nm hrise ⟨x, List.mem_reverse.mpr hx, e⟩, isR_adj nm (drop_fall nm h) (y :: r) (fun hd => by
    rw [List.map_append, List.map_cons] at hd
    have := (List.nodup_append.mp hd).2.2 (nm x) (List.mem_map.mpr ⟨x, hx, rfl⟩) (nm y) List.mem_cons_self
    exact this e)]
   rfl
  ·
   have hn : ∀ x ∈ p, nm x ≠ nm y := fun x hx e => c ⟨x, hx, e⟩
   obtain ⟨o, e, hp, hr⟩ := insL_some nm hrise (fun x hx => hn x (List.mem_reverse.mp hx))
   have hd := insR_drop nm y h hn
   have ho : o = (insR nm y p).reverse := by
    refine rise_eq nm hr ((drop_rise nm).mpr hd) ?_
    refine hp.trans (((List.reverse_perm p).cons y).trans ?_)
    exact (insR_perm nm y p).symm.trans (List.reverse_perm _).symm
   rw [e, Option.bind_some, ho, both r hd, isR]
end
end Go.Proofs.YteckidchnicjeaaGreatDoor.Ord
end
section
namespace Go.Proofs.YteckidchnicjeaaGreatDoor.Pure
open Go.RowKit Go.Proofs.YteckidchnicjeaaGreatDoor.X Go.Proofs.YteckidchnicjeaaGreatDoorW.PrintWords Go.Proofs.YteckidchnicjeaaGreatDoorW.PrintLast Go.Proofs.YteckidchnicjeaaGreatDoorW.PrintMore Go.Proofs.YteckidchnicjeaaGreatDoor.Aid Go.Proofs.YteckidchnicjeaaGreatDoor.Bytes
open Go.Proofs.YteckidchnicjeaaGreatDoor.Ord (less insR isR adj insL refS)
abbrev Tg := S113
theorem bl_toList (s : ByteArray) : s.toList = bl s := ByteArray.toList_eq s
theorem rdT {l : List Tg} {i : Nat} (h : i < l.length) : rd_T113 l (i : Int) = l[i] := getD_at h _
def nm (x : Tg) : T := bl x.f0
theorem order_eq (x y : Tg) : tag_order.f x.f0 x.f1 y.f0 y.f1 = some (Lib.compareBytes (nm x) (nm y)) := rfl
theorem rd_mid {p q : List Tg} {y : Tg} {j : Nat} (hj : j = p.length) : rd_T113 (p ++ y :: q) (j : Int) = y := by
 subst hj
 rw [rdT (by rw [List.length_append, List.length_cons]; omega), List.getElem_append_right (Nat.le_refl _)]
 simp
theorem set_mid {p q : List Tg} {y v : Tg} {j : Nat} (hj : j = p.length) : (p ++ y :: q).set j v = p ++ v :: q := by
 subst hj
 rw [List.set_append_right _ _ (Nat.le_refl _), Nat.sub_self, List.set_cons_zero]
theorem ins_l1 {n : Nat} (R : List Tg) (i m : Nat) (hi : i < 1000000) : ∀ (p : List Tg) (y : Tg) (q : List Tg) (k : Nat),
 (∀ k', m ≤ k' → api_Tag_with_168_190.l0 k' ((insR nm y p).reverse ++ q) 0 (n : Int) ((i + 1 : Nat) : Int) = some R) → m + p.length + 1 ≤ k → p.length < 1000000 →
 api_Tag_with_168_190.l1 k (p.reverse ++ y :: q) 0 (n : Int) (i : Int) (p.length : Int) = some R
 | [], y, q, k, h, hk, _ => by
  obtain ⟨k, rfl⟩ := succ_of (show 0 < k by omega)
  simp only [api_Tag_with_168_190.l1]
  rw [if_neg (by simp), w64s (by omega)]
  exact h k (by simp at hk; omega)
 | z :: p, y, q, k, h, hk, hp => by
  obtain ⟨k, rfl⟩ := succ_of (show 0 < k by omega)
  rw [List.length_cons] at hk hp
  have e0 : (z :: p).reverse ++ y :: q = p.reverse ++ z :: y :: q := by rw [List.reverse_cons, List.append_assoc]; rfl
  have e1 : rd_T113 (p.reverse ++ z :: y :: q) (((z :: p).length : Nat) : Int) = y := by
   have : p.reverse ++ z :: y :: q = (p.reverse ++ [z]) ++ y :: q := by rw [List.append_assoc]; rfl
   rw [this]
   exact rd_mid (by rw [List.length_append, List.length_reverse]; rfl)
  have e2 : rd_T113 (p.reverse ++ z :: y :: q) ((p.length : Nat) : Int) = z := rd_mid (by rw [List.length_reverse])
  have ew : wrap64 (((z :: p).length : Nat) - 1 : Int) = ((p.length : Nat) : Int) := by rw [List.length_cons, w64 (by omega) (by omega)]; omega
  have hlen : (p.reverse ++ z :: y :: q).length = p.length + 2 + q.length := by rw [List.length_append, List.length_reverse, List.length_cons, List.length_cons]; omega
  have es : ((p.reverse ++ z :: y :: q).set ((z :: p).length) z).set p.length y = p.reverse ++ y :: z :: q := by
   have : p.reverse ++ z :: y :: q = (p.reverse ++ [z]) ++ y :: q := by rw [List.append_assoc]; rfl
   rw [this, set_mid (by rw [List.length_append, List.length_reverse]; rfl), List.append_assoc]
   exact set_mid (by rw [List.length_reverse])
  have es2 : ((p.reverse ++ z :: y :: q).set ((((z :: p).length : Nat) : Int)).toNat (⟨z.f0, z.f1⟩ : Tg)).set (((p.length : Nat) : Int)).toNat (⟨y.f0, y.f1⟩ : Tg) = p.reverse ++ y :: z :: q := es
  rw [e0]
  simp only [api_Tag_with_168_190.l1]
  rw [ew, e1, e2, order_eq, if_pos (by rw [List.length_cons]; omega), if_pos (by omega), if_pos (by rw [hlen, List.length_cons]; omega), if_pos (by omega), if_pos (by rw [hlen]; omega), Option.bind_some]
  by_cases c : less (nm y) (nm z) = true
  ·
   rw [if_pos ((Ord.cmp_neg _ _).mpr c), es2]
   refine ins_l1 R i m hi p y (z :: q) k (fun k' hk' => ?_) (by omega) (by omega)
   have := h k' hk'
   rw [insR, if_pos c, List.reverse_cons, List.append_assoc] at this
   exact this
  ·
   rw [if_neg (fun h2 => c ((Ord.cmp_neg _ _).mp h2)), w64s (by omega)]
   have := h k (by omega)
   rw [insR, if_neg c, List.reverse_cons, List.reverse_cons, List.append_assoc, List.append_assoc] at this
   exact this
theorem sort_l0 {n : Nat} (hn : n < 1000) : ∀ (r p : List Tg) (k : Nat), p.length + r.length = n → (n + 3) * (r.length + 1) ≤ k →
 api_Tag_with_168_190.l0 k (p.reverse ++ r) 0 (n : Int) (p.length : Int) = some (isR nm p r)
 | [], p, k, h, hk => by
  obtain ⟨k, rfl⟩ := succ_of (show 0 < k by simp at hk; omega)
  simp only [api_Tag_with_168_190.l0]
  rw [List.length_nil] at h
  rw [if_neg (by omega), List.append_nil]
  rfl
 | y :: r, p, k, h, hk => by
  rw [List.length_cons] at h hk
  have hk2 : (n + 3) * (r.length + 1) + (n + 3) ≤ k := by rw [Nat.mul_succ] at hk; exact hk
  obtain ⟨k, rfl⟩ := succ_of (show 0 < k by omega)
  simp only [api_Tag_with_168_190.l0]
  rw [if_pos (by omega)]
  refine ins_l1 _ p.length ((n + 3) * (r.length + 1)) (by omega) p y r k (fun k' hk' => ?_) (by omega) (by omega)
  have := sort_l0 hn r (insR nm y p) k' (by rw [Ord.insR_len]; omega) hk'
  rw [Ord.insR_len] at this
  exact this
theorem sort_eq {l : List Tg} (hl : l.length ≤ 12) {k : Nat} (hk : 300 ≤ k) : api_Tag_with_168_167.f k l = some (isR nm [] l) := by
 have hs : ∀ k, 280 ≤ k → api_Tag_with_168_190.f k l 0 (l.length : Int) = some (isR nm [] l) := by
  intro k hk
  unfold api_Tag_with_168_190.f
  cases l with
  | nil =>
   obtain ⟨k, rfl⟩ := succ_of (show 0 < k by omega)
   simp only [api_Tag_with_168_190.l0]
   rw [if_neg (by rw [show wrap64 (0 + 1) = ((1 : Nat) : Int) from w64s (i := 0) (by omega)]; simp)]
   rfl
  | cons x r =>
   rw [show wrap64 (0 + 1) = ((1 : Nat) : Int) from w64s (i := 0) (by omega)]
   rw [List.length_cons] at hl
   have hm : (r.length + 1 + 3) * (r.length + 1) ≤ 15 * 12 + 15 := by
    have : (r.length + 1 + 3) * (r.length + 1) ≤ 15 * 12 := Nat.mul_le_mul (by omega) (by omega)
    omega
   have := sort_l0 (n := r.length + 1) (by omega) r [x] k (by simp; omega) (by omega)
   exact this
 unfold api_Tag_with_168_167.f
 have hb : bits_Len.f (IntKind.u64.wrap (l.length : Int)) = some ((Lib.bitLen (IntKind.u64.wrap (l.length : Int)).toNat : Nat) : Int) := by
  unfold bits_Len.f
  have hw : IntKind.u64.wrap (l.length : Int) = (l.length : Int) := by
   show ((l.length : Int)) % 18446744073709551616 = _
   omega
  rw [hw, if_pos ⟨by omega, by omega⟩]
 obtain ⟨k, rfl⟩ : ∃ m, k = m + 1 + 1 := ⟨k - 2, by omega⟩
 rw [hb, Option.bind_some, api_Tag_with_168_182.f, api_Tag_with_168_182.l0, w64 (by omega) (by omega), if_pos (by omega), hs k (by omega), Option.bind_some, Option.bind_some]
def mayG (x : Tg) : Bool := isName (nm x) && isVal (bl x.f1)
def Sh (l : List Tg) : Prop := ∀ x ∈ l, x.f0.size ≤ 1000 ∧ x.f1.size ≤ 1000
theorem mayg_eq {x : Tg} (h : x.f0.size ≤ 1000 ∧ x.f1.size ≤ 1000) {k : Nat} (hk : 1010 ≤ k) : tag_may.f x.f0 x.f1 = some (mayG x) ∧ r03_may.f k x.f0 x.f1 = some (mayG x) := by
 have h0 := bl_len x.f0
 have h1 := bl_len x.f1
 have a := name_eq (l := bl x.f0) (by omega)
 have b := value_eq (l := bl x.f1) (by omega)
 have c := rname_eq (l := bl x.f0) (by omega) k (by omega)
 have d := rvalue_eq (l := bl x.f1) (by omega) k (by omega)
 rw [bl_eta] at a b c d
 unfold tag_may.f r03_may.f mayG nm
 rw [a, b, c, d]
 simp only [Option.bind_some]
 cases isName (bl x.f0)
 ·
  exact ⟨rfl, rfl⟩
 ·
  exact ⟨rfl, rfl⟩
theorem may_l0 {l : List Tg} (hs : Sh l) (hl : l.length ≤ 100000) (d : Nat) : ∀ (i k : Nat), i + d = l.length → d < k →
 ∃ r : Int, api_Tag_with_164_179.l0 k l (l.length : Int) (i : Int) = some r ∧ decide (r ≥ 0) = !((l.drop i).all mayG) := by
 induction d with
 | zero =>
  intro i k hi hk
  obtain ⟨k, rfl⟩ := succ_of hk
  simp only [api_Tag_with_164_179.l0]
  rw [if_neg (by omega), List.drop_of_length_le (by omega)]
  exact ⟨-1, rfl, rfl⟩
 | succ d ih =>
  intro i k hi hk
  obtain ⟨k, rfl⟩ := succ_of hk
  have hlt : i < l.length := by omega
  simp only [api_Tag_with_164_179.l0]
  unfold tag_Canon_1.f
  rw [if_pos (by omega), if_pos (by omega), if_pos (by omega), rdT hlt, (mayg_eq (hs _ (List.getElem_mem hlt)) (k := 1010) (Nat.le_refl _)).1, Option.bind_some, Option.bind_some, w64s (by omega), drop_at hlt, List.all_cons]
  by_cases h : mayG l[i] = true
  ·
   rw [h, if_neg (by decide), Bool.true_and]
   exact ih (i + 1) k (by omega) (by omega)
  ·
   rw [Bool.eq_false_iff.mpr h, if_pos (show (!false) = true from rfl), Bool.false_and]
   exact ⟨(i : Int), rfl, decide_eq_true (by omega)⟩
def canS (l : List Tg) : List Tg × Int := if l.all mayG = true then (if l.length > 4 then ([], 4) else if adj nm (isR nm [] l) = true then ([], 5) else (isR nm [] l, 0)) else ([], 2)
theorem adj_l0 {l : List Tg} (hl : l.length ≤ 1000) (d : Nat) : ∀ (i k : Nat), i + 1 + d = l.length → d < k →
 tag_Canon.l0 k l ((i + 1 : Nat) : Int) = some (if adj nm (l.drop i) = true then ([], 5) else (l, 0)) := by
 induction d with
 | zero =>
  intro i k hi hk
  obtain ⟨k, rfl⟩ := succ_of hk
  have hlt : i < l.length := by omega
  simp only [tag_Canon.l0]
  rw [if_neg (by omega), drop_at hlt, List.drop_of_length_le (by omega)]
  rfl
 | succ d ih =>
  intro i k hi hk
  obtain ⟨k, rfl⟩ := succ_of hk
  have hlt : i < l.length := by omega
  have hl2 : i + 1 < l.length := by omega
  have ew : wrap64 (((i + 1 : Nat) : Int) - 1) = (i : Int) := by rw [w64 (by omega) (by omega)]; omega
  simp only [tag_Canon.l0]
  rw [if_pos (by omega), ew, if_pos (by omega), if_pos (by omega), if_pos (by omega), rdT hlt, rdT hl2, order_eq, Option.bind_some, w64s (by omega), ih (i + 1) k (by omega) (by omega), drop_at hlt, drop_at hl2]
  by_cases c : nm l[i] = nm l[i + 1]
  ·
   rw [if_pos ((Ord.cmp_zero _ _).mpr c), adj, if_pos c, if_pos rfl]
  ·
   rw [if_neg (fun h => c ((Ord.cmp_zero _ _).mp h)), adj, if_neg c]
theorem canon_eq {l : List Tg} (hs : Sh l) (hl : l.length ≤ 1000) {k : Nat} (hk : 1100 ≤ k) : tag_Canon.f k l = some (canS l) := by
 unfold tag_Canon.f api_Tag_with_164_163.f api_Tag_with_164_179.f api_Tag_166.f canS
 obtain ⟨r, e1, e2⟩ := may_l0 hs (by omega) l.length 0 k (by omega) (by omega)
 rw [List.drop_zero] at e2
 rw [show (0 : Int) = ((0 : Nat) : Int) from rfl, e1, Option.bind_some, Option.bind_some, show ((0 : Nat) : Int) = 0 from rfl, e2]
 by_cases h : l.all mayG = true
 ·
  rw [h, if_neg (by decide), if_pos rfl]
  by_cases h4 : l.length > 4
  ·
   rw [if_pos (by omega), if_pos h4]
  ·
   rw [if_neg (by omega), if_neg h4, if_pos (by omega), Option.bind_some, sort_eq (by omega) (by omega), Option.bind_some]
   have hp := (Ord.isR_perm nm l []).length_eq
   rw [List.nil_append] at hp
   cases hq : isR nm [] l with
   | nil =>
    obtain ⟨k, rfl⟩ := succ_of (show 0 < k by omega)
    simp only [tag_Canon.l0]
    rw [if_neg (by simp)]
    rfl
   | cons x q =>
    rw [hq] at hp
    have := adj_l0 (l := x :: q) (by omega) q.length 0 k (by rw [List.length_cons]; omega) (by rw [List.length_cons] at hp; omega)
    rw [List.drop_zero] at this
    exact this
 ·
  rw [Bool.eq_false_iff.mpr h, if_pos (show (!false) = true from rfl), if_neg (by decide)]
def fin (r : Option (List Tg)) : List Tg × Int := match r with | none => ([], 5) | some o => (o, 0)
theorem ref_l2 {x0 : List Tg} {i m : Nat} (hi : i < x0.length) (hx : x0.length ≤ 100) (rest : List Tg) (IH : ∀ (out : List Tg) (k : Nat), out.length = i + 1 → m ≤ k → r03_Canon.l1 k x0 out ((i + 1 : Nat) : Int) = some (fin (refS nm out rest))) :
 ∀ (suf pre : List Tg) (k : Nat), pre.length + suf.length = i → m + suf.length + 1 ≤ k →
 r03_Canon.l2 k x0 (pre ++ suf) (i : Int) (pre.length : Int) = some (fin (((insL nm x0[i] suf).map (pre ++ ·)).bind fun o => refS nm o rest))
 | [], pre, k, h, hk => by
  obtain ⟨k, rfl⟩ := succ_of (show 0 < k by omega)
  rw [List.length_nil] at h
  have ht : (pre ++ []).take ((pre.length : Int)).toNat = pre := by rw [List.append_nil, Int.toNat_natCast, List.take_length]
  have hd : (pre ++ []).drop ((pre.length : Int)).toNat = [] := by rw [List.append_nil, Int.toNat_natCast, List.drop_length]
  have hl : (pre ++ []).length = pre.length := by rw [List.append_nil]
  simp only [r03_Canon.l2]
  rw [ht, hd, hl, if_neg (by omega), Option.bind_some, if_pos (by omega), if_pos (by omega), Option.bind_some, if_pos (by simp), Option.bind_some, Option.bind_some, if_pos (by omega), if_pos (by omega), if_pos (by omega), Option.bind_some, rdT hi, if_pos (by simp; omega), w64s (by omega)]
  have := IH (pre ++ [x0[i]]) k (by rw [List.length_append, List.length_singleton]; omega) (by simp at hk; omega)
  rw [List.append_nil, List.append_nil]
  exact this
 | z :: suf, pre, k, h, hk => by
  obtain ⟨k, rfl⟩ := succ_of (show 0 < k by omega)
  rw [List.length_cons] at h hk
  have hz : rd_T113 (pre ++ z :: suf) (pre.length : Int) = z := rd_mid rfl
  have ht : (pre ++ z :: suf).take ((pre.length : Int)).toNat = pre := by rw [Int.toNat_natCast, List.take_left]
  have hd : (pre ++ z :: suf).drop ((pre.length : Int)).toNat = z :: suf := by rw [Int.toNat_natCast, List.drop_left]
  have hl : (pre ++ z :: suf).length = i := by rw [List.length_append, List.length_cons]; omega
  simp only [r03_Canon.l2]
  rw [ht, hd, hl, hz, rdT hi, if_pos (by omega), if_pos (by omega), if_pos (by omega), if_pos (by omega), bl_toList, bl_toList]
  unfold insL
  by_cases c : less (nm z) (nm x0[i]) = true
  ·
   have c' : Op.bytesLess (bl z.f0) (bl x0[i].f0) = true := c
   rw [if_pos c', if_pos c, w64s (by omega)]
   have := ref_l2 hi hx rest IH suf (pre ++ [z]) k (by rw [List.length_append, List.length_singleton]; omega) (by omega)
   rw [List.append_assoc, List.length_append, List.length_singleton] at this
   rw [Option.map_map]
   have e : ((pre ++ ·) ∘ (z :: ·) : List Tg → List Tg) = fun o => (pre ++ [z]) ++ o := by
    funext o
    show pre ++ z :: o = _
    rw [List.append_assoc]
    rfl
   rw [e]
   exact this
  ·
   have c' : ¬ Op.bytesLess (bl z.f0) (bl x0[i].f0) = true := c
   rw [if_neg c', if_neg c]
   by_cases c2 : nm z = nm x0[i]
   ·
    have c2' : bl z.f0 = bl x0[i].f0 := c2
    rw [if_pos c2', if_pos c2]
    rfl
   ·
    have c2' : ¬ bl z.f0 = bl x0[i].f0 := c2
    rw [if_neg c2', if_neg c2, Option.bind_some, if_pos (by omega), Option.bind_some, if_pos (by simp; omega), Option.bind_some, Option.bind_some, if_pos (by omega), Option.bind_some, if_pos (by simp; omega), w64s (by omega)]
    have := IH ((pre ++ [x0[i]]) ++ z :: suf) k (by rw [List.length_append, List.length_append, List.length_singleton, List.length_cons]; omega) (by omega)
    rw [List.nil_append]
    have e : (pre ++ [x0[i]]) ++ z :: suf = pre ++ x0[i] :: z :: suf := by rw [List.append_assoc]; rfl
    rw [e] at this
    have e2 : (pre ++ [(⟨x0[i].f0, x0[i].f1⟩ : Tg)]) ++ z :: suf = pre ++ x0[i] :: z :: suf := e
    rw [e2]
    exact this
theorem ref_l1 {x0 : List Tg} (hx : x0.length ≤ 100) {c : Nat} (hc : 105 ≤ c) (d : Nat) : ∀ (i : Nat) (out : List Tg) (k : Nat), i + d = x0.length → out.length = i → (d + 1) * c ≤ k →
 r03_Canon.l1 k x0 out (i : Int) = some (fin (refS nm out (x0.drop i))) := by
 induction d with
 | zero =>
  intro i out k hi ho hk
  rw [Nat.zero_add, Nat.one_mul] at hk
  obtain ⟨k, rfl⟩ := succ_of (show 0 < k by omega)
  simp only [r03_Canon.l1]
  rw [if_neg (by omega), List.drop_of_length_le (by omega)]
  rfl
 | succ d ih =>
  intro i out k hi ho hk
  rw [Nat.succ_mul] at hk
  obtain ⟨k, rfl⟩ := succ_of (show 0 < k by omega)
  have hlt : i < x0.length := by omega
  simp only [r03_Canon.l1]
  rw [if_pos (by omega), drop_at hlt]
  have := ref_l2 (m := (d + 1) * c) hlt hx (x0.drop (i + 1)) (fun o k' h1 h2 => ih (i + 1) o k' (by omega) h1 h2) out [] k (by rw [List.length_nil]; omega) (by omega)
  rw [List.nil_append, List.length_nil] at this
  have h0 : ((0 : Nat) : Int) = 0 := rfl
  rw [h0] at this
  rw [this]
  have e : (fun o : List Tg => ([] : List Tg) ++ o) = id := by
   funext o
   rfl
  rw [refS, e, Option.map_id]
  rfl
theorem rmay_l0 {l : List Tg} (hs : Sh l) (hl : l.length ≤ 1000) (d : Nat) : ∀ (i k : Nat), i + d = l.length → d + 12000 < k →
 r03_Canon.l0 k l (i : Int) = some (if (l.drop i).all mayG = true then (if l.length > 4 then ([], 4) else fin (refS nm [] l)) else ([], 2)) := by
 induction d with
 | zero =>
  intro i k hi hk
  obtain ⟨k, rfl⟩ := succ_of (show 0 < k by omega)
  simp only [r03_Canon.l0]
  rw [if_neg (by omega), List.drop_of_length_le (by omega), List.all_nil, if_pos rfl]
  by_cases h4 : l.length > 4
  ·
   rw [if_pos (by omega), if_pos h4]
  ·
   rw [if_neg (by omega), if_neg h4]
   have := ref_l1 (x0 := l) (c := 105) (by omega) (Nat.le_refl _) l.length 0 [] k (by omega) rfl (by omega)
   rw [List.drop_zero] at this
   exact this
 | succ d ih =>
  intro i k hi hk
  obtain ⟨k, rfl⟩ := succ_of (show 0 < k by omega)
  have hlt : i < l.length := by omega
  simp only [r03_Canon.l0]
  rw [if_pos (by omega), if_pos (by omega), rdT hlt, (mayg_eq (hs _ (List.getElem_mem hlt)) (k := k) (by omega)).2, Option.bind_some, w64s (by omega), ih (i + 1) k (by omega) (by omega), drop_at hlt, List.all_cons]
  by_cases h : mayG l[i] = true
  ·
   rw [if_pos h, h, Bool.true_and]
  ·
   rw [if_neg h, Bool.eq_false_iff.mpr h, Bool.false_and, if_neg (by decide)]
theorem rcanon_eq {l : List Tg} (hs : Sh l) (hl : l.length ≤ 1000) {k : Nat} (hk : 14000 ≤ k) : r03_Canon.f k l = some (canS l) := by
 have h := rmay_l0 hs hl l.length 0 k (by omega) (by omega)
 rw [List.drop_zero] at h
 unfold r03_Canon.f
 rw [show (0 : Int) = ((0 : Nat) : Int) from rfl, h]
 unfold canS
 have hb := Ord.both nm l (p := []) List.Pairwise.nil
 rw [List.reverse_nil] at hb
 rw [hb]
 split
 ·
  split
  ·
   rfl
  ·
   split <;> rfl
 ·
  rfl
end Go.Proofs.YteckidchnicjeaaGreatDoor.Pure
end
section
namespace Go.Proofs.YteckidchnicjeaaGreatDoor.Pure
open Go.RowKit Go.Proofs.YteckidchnicjeaaGreatDoor.X Go.Proofs.YteckidchnicjeaaGreatDoorW.PrintWords Go.Proofs.YteckidchnicjeaaGreatDoorW.PrintLast Go.Proofs.YteckidchnicjeaaGreatDoorW.PrintMore Go.Proofs.YteckidchnicjeaaGreatDoor.Aid Go.Proofs.YteckidchnicjeaaGreatDoor.Bytes
open Go.Lib (index occAt NoOcc)
theorem occ_iff {s sub : T} {i : Nat} : occAt s sub i = true ↔ ∃ v, s.drop i = sub ++ v := by
 unfold occAt
 rw [List.isPrefixOf_iff_prefix]
 exact ⟨fun ⟨v, h⟩ => ⟨v, h.symm⟩, fun ⟨v, h⟩ => ⟨v, h.symm⟩⟩
theorem no_occ {a r t : T} {c : UInt8} (h : c ∉ a) : NoOcc (a ++ r) (c :: t) a.length := by
 intro j hj
 rw [Bool.eq_false_iff]
 intro e
 obtain ⟨v, hv⟩ := occ_iff.mp e
 rw [List.drop_append_of_le_length (by omega), drop_at hj, List.cons_append, List.cons_append] at hv
 injection hv with h1 _
 exact h (by rw [← h1]; exact List.getElem_mem hj)
theorem index_at {a t v : T} {c : UInt8} (h : c ∉ a) : index (a ++ ((c :: t) ++ v)) (c :: t) = (a.length : Int) :=
 Go.Lib.index_hit (no_occ h) (by rw [List.length_append]; omega) (occ_iff.mpr ⟨v, by rw [List.drop_left]⟩)
theorem index_no {a t : T} {c : UInt8} (h : c ∉ a) : index a (c :: t) = -1 := by
 have h2 := no_occ (r := []) (t := t) h
 rw [List.append_nil] at h2
 exact Go.Lib.index_past (by simp) h2 (by simp)
theorem first_at (c : UInt8) : ∀ p : T, c ∉ p ∨ ∃ a v, p = a ++ c :: v ∧ c ∉ a
 | [] => .inl (by simp)
 | x :: p => by
  by_cases h : x = c
  ·
   exact .inr ⟨[], p, by rw [h]; rfl, by simp⟩
  ·
   rcases first_at c p with h2 | ⟨a, v, e, h2⟩
   ·
    exact .inl (by rw [List.mem_cons, not_or]; exact ⟨fun e => h e.symm, h2⟩)
   ·
    exact .inr ⟨x :: a, v, by rw [e]; rfl, by rw [List.mem_cons, not_or]; exact ⟨fun e => h e.symm, h2⟩⟩
theorem cut_at {a v : T} {c : UInt8} (h : c ∉ a) : Lib.cut (a ++ c :: v) [c] = (a, v, true) := by
 have e := index_at (t := []) (v := v) h
 rw [show ([c] : T) ++ v = c :: v from rfl] at e
 unfold Lib.cut
 rw [e, if_pos (by omega), Int.toNat_natCast, List.take_left, List.length_singleton, ← List.drop_drop, List.drop_left]
 rfl
theorem cut_no {a : T} {c : UInt8} (h : c ∉ a) : Lib.cut a [c] = (a, [], false) := by
 unfold Lib.cut
 rw [index_no h, if_neg (by decide)]
def readG (p : T) : Tg := ⟨mk (Lib.cut p [61]).1, mk (Lib.cut p [61]).2.1⟩
def okG (p : T) : Bool := (Lib.cut p [61]).2.2
theorem cut_eq {p : T} (h : p.length ≤ 100000) : strings_Cut.f (mk p) (⟨#[61]⟩ : ByteArray) = some ((readG p).f0, (readG p).f1, okG p) := by
 unfold strings_Cut.f
 rw [mk_size, if_pos (by omega), mk_data]
 rfl
theorem readG_len (p : T) : (readG p).f0.size ≤ p.length ∧ (readG p).f1.size ≤ p.length := by
 unfold readG
 rw [mk_size, mk_size]
 rcases first_at 61 p with h | ⟨a, v, e, h⟩
 ·
  rw [cut_no h]; simp
 ·
  rw [e, cut_at h]; simp; omega
def parseG (s : T) : List Tg × Int := if s = [] then ([], 0) else if (spl 44 s).all okG = true then canS ((spl 44 s).map readG) else ([], 2)
theorem sh_read {L : List T} (h : ∀ p ∈ L, p.length ≤ 1000) : Sh (L.map readG) := by
 intro x hx
 obtain ⟨p, hp, rfl⟩ := List.mem_map.mp hx
 have := readG_len p
 have := h p hp
 omega
theorem parse_l0 {L : List T} (hL : ∀ p ∈ L, p.length ≤ 1000) (hn : L.length ≤ 1000) (d : Nat) : ∀ (i k : Nat), i + d = L.length → d + 1200 < k →
 tag_Parse.l0 k ((L.take i).map readG) (L.map mk) (L.length : Int) (i : Int) = some (if (L.drop i).all okG = true then canS (L.map readG) else ([], 2)) := by
 induction d with
 | zero =>
  intro i k hi hk
  obtain ⟨k, rfl⟩ := succ_of (show 0 < k by omega)
  simp only [tag_Parse.l0]
  rw [if_neg (by omega), List.drop_of_length_le (by omega), List.take_of_length_le (by omega), canon_eq (sh_read hL) (by rw [List.length_map]; omega) (by omega), List.all_nil, if_pos rfl]
  rfl
 | succ d ih =>
  intro i k hi hk
  obtain ⟨k, rfl⟩ := succ_of (show 0 < k by omega)
  have hlt : i < L.length := by omega
  have hp := hL _ (List.getElem_mem hlt)
  have e2 : (L.take i).map readG ++ [(⟨(readG L[i]).f0, (readG L[i]).f1⟩ : Tg)] = (L.take (i + 1)).map readG := by rw [take_at hlt, List.map_append]; rfl
  simp only [tag_Parse.l0]
  rw [List.length_map, if_pos (by omega), if_pos (by omega), if_pos (by omega), rds hlt, cut_eq (by omega), Option.bind_some, e2, w64s (by omega), ih (i + 1) k (by omega) (by omega), drop_at hlt, List.all_cons]
  by_cases h : okG L[i] = true
  ·
   rw [if_pos h, if_pos (by rw [List.length_map, List.length_take]; omega), h, Bool.true_and]
  ·
   rw [if_neg h, Bool.eq_false_iff.mpr h, Bool.false_and, if_neg (by decide)]
theorem parse_eq {s : T} (hs : s.length ≤ 900) {k : Nat} (hk : 30000 ≤ k) : tag_Parse.f k (mk s) = some (parseG s) := by
 unfold tag_Parse.f parseG
 rw [mk_toList]
 by_cases h : s = []
 ·
  rw [if_pos h, if_pos h]
 ·
  have hl := spl_len 44 s
  have := parse_l0 (L := spl 44 s) (fun p hp => by have := spl_short 44 s p hp; omega) (by omega) (spl 44 s).length 0 k (by omega) (by omega)
  rw [if_neg h, if_neg h, show (44 : Int) = ((44 : UInt8).toNat : Int) from rfl, split_eq 44 (by omega) k (by omega), Option.bind_some, List.length_map]
  exact this
theorem rparse_l0 {L : List T} (hL : ∀ p ∈ L, p.length ≤ 1000) (hn : L.length ≤ 1000) (d : Nat) : ∀ (i k : Nat), i + d = L.length → d + 25000 < k →
 r03_Parse.l0 k ((L.take i).map readG) (L.map mk) (i : Int) = some (if (L.drop i).all okG = true then canS (L.map readG) else ([], 2)) := by
 induction d with
 | zero =>
  intro i k hi hk
  obtain ⟨k, rfl⟩ := succ_of (show 0 < k by omega)
  simp only [r03_Parse.l0]
  rw [List.length_map, if_neg (by omega), List.drop_of_length_le (by omega), List.take_of_length_le (by omega), rcanon_eq (sh_read hL) (by rw [List.length_map]; omega) (by omega), List.all_nil, if_pos rfl]
  rfl
 | succ d ih =>
  intro i k hi hk
  obtain ⟨k, rfl⟩ := succ_of (show 0 < k by omega)
  have hlt : i < L.length := by omega
  have hp := hL _ (List.getElem_mem hlt)
  have hsp := rsplit_eq 61 (l := L[i]) (by omega) k (by omega)
  have hih := ih (i + 1) k (by omega) (by omega)
  simp only [r03_Parse.l0]
  rw [List.length_map, if_pos (by omega), if_pos (by omega), rds hlt, show (61 : Int) = ((61 : UInt8).toNat : Int) from rfl, hsp, Option.bind_some, List.length_map, drop_at hlt, List.all_cons]
  rcases first_at 61 L[i] with h | ⟨a, v, e, h⟩
  ·
   have ho : okG L[i] = false := by unfold okG; rw [cut_no h]
   rw [spl_no 61 _ h, if_pos (by simp), ho, Bool.false_and, if_neg (by decide)]
  ·
   have ho : okG L[i] = true := by unfold okG; rw [e, cut_at h]
   have hr : readG L[i] = ⟨mk a, mk v⟩ := by unfold readG; rw [e, cut_at h]
   have hs : spl 61 L[i] = a :: spl 61 v := by rw [e, spl_app 61 a v h]
   have hne := spl_ne 61 v
   have hl2 := spl_len 61 v
   have hlv : v.length ≤ 1000 := by rw [e, List.length_append, List.length_cons] at hp; omega
   have hpos : 1 ≤ (spl 61 v).length := by
    cases hq : spl 61 v with
    | nil => exact absurd hq hne
    | cons y q => simp
   have htot : tot (spl 61 v) ≤ 2000000 := by
    have h1 := tot_le 1000 (spl 61 v) (fun x hx => by have := spl_short 61 v x hx; omega)
    omega
   have hj := rjoin_eq (L := spl 61 v) (s := [61]) (k := k) (by omega) (by simp) (by omega) (by omega)
   rw [join_spl] at hj
   have hj2 : r02_Join.f k (⟨#[61]⟩ : ByteArray) ((spl 61 v).map mk) = some (mk v) := hj
   have e2 : (L.take i).map readG ++ [(⟨mk a, mk v⟩ : Tg)] = (L.take (i + 1)).map readG := by rw [take_at hlt, List.map_append, ← hr]; rfl
   have h0 : rdOf ByteArray.empty ((a :: spl 61 v).map mk) 0 = mk a := rfl
   have hd : ((a :: spl 61 v).map mk).drop 1 = (spl 61 v).map mk := rfl
   rw [hs, h0, hd, hj2, if_neg (by rw [List.length_cons]; omega), if_pos (by rw [List.length_cons]; omega), if_pos (by rw [List.length_cons]; omega), Option.bind_some, if_pos (by rw [List.length_map, List.length_take]; omega), e2, w64s (by omega), hih, ho, Bool.true_and]
theorem rparse_eq {s : T} (hs : s.length ≤ 900) {k : Nat} (hk : 30000 ≤ k) : r03_Parse.f k (mk s) = some (parseG s) := by
 unfold r03_Parse.f parseG
 rw [mk_toList]
 by_cases h : s = []
 ·
  rw [if_pos h, if_pos h]
 ·
  have hl := spl_len 44 s
  have := rparse_l0 (L := spl 44 s) (fun p hp => by have := spl_short 44 s p hp; omega) (by omega) (spl 44 s).length 0 k (by omega) (by omega)
  rw [if_neg h, if_neg h, show (44 : Int) = ((44 : UInt8).toNat : Int) from rfl, rsplit_eq 44 (by omega) k (by omega), Option.bind_some]
  exact this
def tagT (x : Tg) : T := bl x.f0 ++ [61] ++ bl x.f1
def tagsT (l : List Tg) : T := Lib.join (l.map tagT) [44]
theorem join2 (n v s : T) : Lib.join [n, v] s = n ++ s ++ v := by simp [Lib.join_cons, Lib.joinTail]
theorem tag_one {x : Tg} (h : x.f0.size ≤ 1000 ∧ x.f1.size ≤ 1000) : word_Join.f (⟨#[61]⟩ : ByteArray) [x.f0, x.f1] = some (mk (tagT x)) := by
 have h0 := bl_len x.f0
 have h1 := bl_len x.f1
 have := join_eq (L := [bl x.f0, bl x.f1]) (s := [61]) (by simp) (by rw [join2]; simp only [List.length_append, List.length_singleton]; omega)
 rw [join2, List.map_cons, List.map_cons, bl_eta, bl_eta] at this
 exact this
theorem tagT_len {x : Tg} (h : x.f0.size ≤ 1000 ∧ x.f1.size ≤ 1000) : (tagT x).length ≤ 2001 := by
 have h0 := bl_len x.f0
 have h1 := bl_len x.f1
 unfold tagT
 simp only [List.length_append, List.length_singleton]
 omega
theorem tags_tot {l : List Tg} (hs : Sh l) (hl : l.length ≤ 1000) : tot (l.map tagT) ≤ 3000000 := by
 have h1 := tot_le 2001 (l.map tagT) (fun x hx => by
  obtain ⟨y, hy, rfl⟩ := List.mem_map.mp hx
  exact tagT_len (hs y hy))
 rw [List.length_map] at h1
 omega
theorem text_l0 {l : List Tg} (hs : Sh l) (hl : l.length ≤ 1000) (d : Nat) : ∀ (i k : Nat), i + d = l.length → d < k →
 tag_Text.l0 k ((l.take i).map fun x => mk (tagT x)) l (l.length : Int) (i : Int) = some (mk (tagsT l)) := by
 induction d with
 | zero =>
  intro i k hi hk
  obtain ⟨k, rfl⟩ := succ_of hk
  have hj := join_len [44] (l.map tagT)
  have ht := tags_tot hs hl
  rw [List.length_map, List.length_singleton] at hj
  have e := join_eq (L := l.map tagT) (s := [44]) (by rw [List.length_map]; omega) (by omega)
  rw [List.map_map] at e
  simp only [tag_Text.l0]
  rw [if_neg (by omega), List.take_of_length_le (by omega)]
  have e2 : word_Join.f (⟨#[44]⟩ : ByteArray) (l.map fun x => mk (tagT x)) = some (mk (tagsT l)) := e
  rw [e2, Option.bind_some]
 | succ d ih =>
  intro i k hi hk
  obtain ⟨k, rfl⟩ := succ_of hk
  have hlt : i < l.length := by omega
  have e2 : ((l.take i).map fun x => mk (tagT x)) ++ [mk (tagT l[i])] = (l.take (i + 1)).map fun x => mk (tagT x) := by rw [take_at hlt, List.map_append]; rfl
  simp only [tag_Text.l0]
  rw [if_pos (by omega), if_pos (by omega), if_pos (by omega), rdT hlt, tag_one (hs _ (List.getElem_mem hlt)), Option.bind_some, if_pos (by rw [List.length_map, List.length_take]; omega), w64s (by omega), e2]
  exact ih (i + 1) k (by omega) (by omega)
theorem ttext_eq {l : List Tg} (hs : Sh l) (hl : l.length ≤ 1000) {k : Nat} (hk : 1010 ≤ k) : tag_Text.f k l = some (mk (tagsT l)) :=
 text_l0 hs hl l.length 0 k (by omega) (by omega)
theorem rtext_l0 {l : List Tg} (hs : Sh l) (hl : l.length ≤ 1000) (d : Nat) : ∀ (i k : Nat), i + d = l.length → d + 1100 < k →
 r03_Text.l0 k l ((l.take i).map fun x => mk (tagT x)) (i : Int) = some (mk (tagsT l)) := by
 induction d with
 | zero =>
  intro i k hi hk
  obtain ⟨k, rfl⟩ := succ_of (show 0 < k by omega)
  have ht := tags_tot hs hl
  have e := rjoin_eq (L := l.map tagT) (s := [44]) (k := k) (by rw [List.length_map]; omega) (by simp) (by omega) (by rw [List.length_map]; omega)
  rw [List.map_map] at e
  simp only [r03_Text.l0]
  rw [if_neg (by omega), List.take_of_length_le (by omega)]
  have e2 : r02_Join.f k (⟨#[44]⟩ : ByteArray) (l.map fun x => mk (tagT x)) = some (mk (tagsT l)) := e
  rw [e2, Option.bind_some]
 | succ d ih =>
  intro i k hi hk
  obtain ⟨k, rfl⟩ := succ_of (show 0 < k by omega)
  have hlt : i < l.length := by omega
  have h1 := hs _ (List.getElem_mem hlt)
  have b0 := bl_len l[i].f0
  have b1 := bl_len l[i].f1
  have e2 : ((l.take i).map fun x => mk (tagT x)) ++ [mk (tagT l[i])] = (l.take (i + 1)).map fun x => mk (tagT x) := by rw [take_at hlt, List.map_append]; rfl
  have et : l[i].f0 ++ (⟨#[61]⟩ : ByteArray) ++ l[i].f1 = mk (tagT l[i]) := by
   have : mk (bl l[i].f0) ++ mk [61] ++ mk (bl l[i].f1) = mk (tagT l[i]) := by rw [mk_append, mk_append]; rfl
   rw [bl_eta, bl_eta] at this
   exact this
  have ez : (l[i].f0 ++ (⟨#[61]⟩ : ByteArray)).size = l[i].f0.size + 1 := by
   have : mk (bl l[i].f0) ++ mk [61] = mk (bl l[i].f0 ++ [61]) := mk_append _ _
   rw [bl_eta] at this
   have h2 : l[i].f0 ++ (⟨#[61]⟩ : ByteArray) = mk (bl l[i].f0 ++ [61]) := this
   rw [h2, mk_size, List.length_append, b0]
   rfl
  simp only [r03_Text.l0]
  rw [if_pos (by omega), if_pos (by omega), rdT hlt, if_pos (by omega), ez, if_pos (by omega), if_pos (by rw [List.length_map, List.length_take]; omega), et, e2, w64s (by omega)]
  exact ih (i + 1) k (by omega) (by omega)
theorem rttext_eq {l : List Tg} (hs : Sh l) (hl : l.length ≤ 1000) {k : Nat} (hk : 2200 ≤ k) : r03_Text.f k l = some (mk (tagsT l)) :=
 rtext_l0 hs hl l.length 0 k (by omega) (by omega)
theorem canS_mem {l : List Tg} : ∀ x ∈ (canS l).1, x ∈ l := by
 unfold canS
 intro x hx
 split at hx
 ·
  split at hx
  ·
   cases hx
  ·
   split at hx
   ·
    cases hx
   ·
    have := (Ord.isR_perm nm l []).subset hx
    rwa [List.nil_append] at this
 ·
  cases hx
theorem canS_len (l : List Tg) : (canS l).1.length ≤ 4 := by
 unfold canS
 split
 ·
  split
  ·
   simp
  ·
   split
   ·
    simp
   ·
    have := (Ord.isR_perm nm l []).length_eq
    rw [List.nil_append] at this
    show (Ord.isR nm [] l).length ≤ 4
    omega
 ·
  simp
theorem parseG_sh {s : T} (hs : s.length ≤ 900) : Sh (parseG s).1 ∧ (parseG s).1.length ≤ 4 := by
 unfold parseG
 split
 ·
  exact ⟨fun x hx => absurd hx (by simp), by simp⟩
 ·
  split
  ·
   refine ⟨fun x hx => sh_read (L := spl 44 s) (fun p hp => by have := spl_short 44 s p hp; omega) x (canS_mem x hx), canS_len _⟩
  ·
   exact ⟨fun x hx => absurd hx (by simp), by simp⟩
def grp (s : T) : Int := if (parseG s).2 = 0 then (if tagsT (parseG s).1 = s then 0 else 2) else (parseG s).2
theorem group_eq {s : T} (hs : s.length ≤ 900) {k : Nat} (hk : 30000 ≤ k) : row_group.f k (mk s) = some (grp s) ∧ r08_group.f k (mk s) = some (grp s) := by
 obtain ⟨h1, h2⟩ := parseG_sh hs
 unfold row_group.f r08_group.f grp
 rw [parse_eq hs hk, rparse_eq hs hk, Option.bind_some, Option.bind_some, ttext_eq h1 (by omega) (by omega), rttext_eq h1 (by omega) (by omega), Option.bind_some, Option.bind_some, mk_toList, mk_toList]
 by_cases h : (parseG s).2 = 0
 ·
  rw [if_pos h, if_pos h, if_pos h, h]
  by_cases h2 : tagsT (parseG s).1 = s
  ·
   rw [if_pos h2, if_pos h2]
   exact ⟨rfl, rfl⟩
  ·
   rw [if_neg h2, if_neg h2]
   exact ⟨rfl, rfl⟩
 ·
  rw [if_neg h, if_neg h, if_neg h]
  exact ⟨rfl, rfl⟩
end Go.Proofs.YteckidchnicjeaaGreatDoor.Pure
end
section
namespace Go.Proofs.YteckidchnicjeaaGreatDoor.Pure
open Go.RowKit Go.Proofs.YteckidchnicjeaaGreatDoor.X Go.Proofs.YteckidchnicjeaaGreatDoorW.PrintWords Go.Proofs.YteckidchnicjeaaGreatDoorW.PrintLast Go.Proofs.YteckidchnicjeaaGreatDoorW.PrintMore Go.Proofs.YteckidchnicjeaaGreatDoor.Aid Go.Proofs.YteckidchnicjeaaGreatDoor.Bytes
open Go.Proofs.YteckidchnicjeaaGreatDoor.Ord (less)
abbrev Key := Int × T
def key (x : Rw) : Key := (x.f0, bl x.f1)
def lt (a b : Key) : Bool := decide (a.1 < b.1) || (decide (a.1 = b.1) && less a.2 b.2)
theorem lt_iff (a b : Key) : lt a b = true ↔ a.1 < b.1 ∨ (a.1 = b.1 ∧ less a.2 b.2 = true) := by
 unfold lt
 rw [Bool.or_eq_true, Bool.and_eq_true, decide_eq_true_eq, decide_eq_true_eq]
theorem lt_irrefl (a : Key) : lt a a = false := by
 rw [Bool.eq_false_iff]
 intro h
 rcases (lt_iff a a).mp h with h | ⟨_, h⟩
 ·
  omega
 ·
  rw [Ord.irrefl] at h
  cases h
theorem cmpI (a b : Int) : cmp_Compare_int64.f a b = some (if a < b then -1 else if b < a then 1 else 0) := by
 unfold cmp_Compare_int64.f cmp_isNaN_int64.f
 have h1 : (a != a) = false := by simp
 have h2 : (b != b) = false := by simp
 rw [Option.bind_some, Option.bind_some, h1, h2, if_neg (by decide), if_neg (by decide)]
 by_cases h : a < b
 ·
  rw [if_pos h, if_pos h]
 ·
  rw [if_neg h, if_neg h]
  by_cases h2 : b < a
  ·
   rw [if_pos h2, if_pos h2]
  ·
   rw [if_neg h2, if_neg h2]
theorem or2 (a b : Int) {k : Nat} (hk : 3 ≤ k) : cmp_Or_int.f k [a, b] = some (if a = 0 then b else a) := by
 obtain ⟨k, rfl⟩ : ∃ m, k = m + 1 + 1 + 1 := ⟨k - 3, by omega⟩
 unfold cmp_Or_int.f
 have hl : (([a, b] : List Int).length : Int) = 2 := rfl
 have r0 : rd [a, b] 0 = a := rfl
 have r1 : rd [a, b] 1 = b := rfl
 have w1 : wrap64 (0 + 1) = 1 := w64s (i := 0) (by omega)
 have w2 : wrap64 (1 + 1) = 2 := w64s (i := 1) (by omega)
 rw [hl, cmp_Or_int.l0, hl, r0, w1, if_pos (by decide), if_pos (by decide), if_pos (by decide)]
 by_cases h : a = 0
 ·
  rw [if_pos h, if_pos h, cmp_Or_int.l0, hl, r1, w2, if_pos (by decide), if_pos (by decide), if_pos (by decide)]
  by_cases h2 : b = 0
  ·
   rw [if_pos h2, cmp_Or_int.l0, if_neg (by decide), h2]
  ·
   rw [if_neg h2]
 ·
  rw [if_neg h, if_neg h]
theorem before_eq (a b : Rw) {k : Nat} (hk : 3 ≤ k) : row_Before.f k a.f0 a.f1 a.f2.f0 a.f2.f1 b.f0 b.f1 b.f2.f0 b.f2.f1 = some (lt (key a) (key b)) := by
 unfold row_Before.f row_of.f row_order.f strings_Compare.f
 simp only [Option.bind_some]
 rw [cmpI, Option.bind_some, or2 _ _ hk, Option.bind_some, Option.bind_some]
 have e : Lib.compareBytes a.f1.data.toList b.f1.data.toList < 0 ↔ less (bl a.f1) (bl b.f1) = true := Ord.cmp_neg _ _
 congr 1
 rw [Bool.eq_iff_iff, decide_eq_true_eq, lt_iff]
 show _ ↔ a.f0 < b.f0 ∨ (a.f0 = b.f0 ∧ less (bl a.f1) (bl b.f1) = true)
 rw [← e]
 by_cases h : a.f0 < b.f0
 ·
  rw [if_pos h, if_neg (by decide)]
  exact ⟨fun _ => .inl h, fun _ => by decide⟩
 ·
  rw [if_neg h]
  by_cases h2 : b.f0 < a.f0
  ·
   rw [if_pos h2, if_neg (by decide)]
   exact ⟨fun h3 => absurd h3 (by decide), fun h3 => by rcases h3 with h3 | ⟨h3, _⟩ <;> omega⟩
  ·
   rw [if_neg h2, if_pos rfl]
   exact ⟨fun h3 => .inr ⟨by omega, h3⟩, fun h3 => by rcases h3 with h3 | ⟨_, h3⟩; omega; exact h3⟩
theorem rbefore_eq (a b : Rw) (x : Int) (p : Bool) (y : Int) (q : Bool) : r08_Before.f a.f0 a.f1 x p b.f0 b.f1 y q = some (lt (key a) (key b)) := by
 unfold r08_Before.f lt key
 rw [bl_toList, bl_toList]
 dsimp only
 by_cases h : a.f0 < b.f0
 ·
  rw [if_pos h, decide_eq_true h, Bool.true_or]
 ·
  rw [if_neg h, decide_eq_false h, Bool.false_or]
  by_cases h2 : a.f0 = b.f0
  ·
   rw [if_pos h2, decide_eq_true h2, Bool.true_and]
  ·
   rw [if_neg h2, decide_eq_false h2, Bool.false_and]
def riseB : List Rw → Bool
 | x :: y :: r => lt (key x) (key y) && riseB (y :: r)
 | _ => true
def Rise (l : List Rw) : Prop := l.Pairwise fun a b => lt (key a) (key b) = true
theorem rise_l0 {l : List Rw} (hl : l.length ≤ 100000) (d : Nat) : ∀ (i k : Nat), i + 1 + d = l.length → d + 5 < k →
 row_rise.l0 k l ((i + 1 : Nat) : Int) = some (riseB (l.drop i)) ∧ r08_rise.l0 k l ((i + 1 : Nat) : Int) = some (riseB (l.drop i)) := by
 induction d with
 | zero =>
  intro i k hi hk
  obtain ⟨k, rfl⟩ := succ_of (show 0 < k by omega)
  have hlt : i < l.length := by omega
  simp only [row_rise.l0, r08_rise.l0]
  rw [if_neg (by omega), if_neg (by omega), drop_at hlt, List.drop_of_length_le (by omega)]
  exact ⟨rfl, rfl⟩
 | succ d ih =>
  intro i k hi hk
  obtain ⟨k, rfl⟩ := succ_of (show 0 < k by omega)
  have hlt : i < l.length := by omega
  have hl2 : i + 1 < l.length := by omega
  have ew : wrap64 (((i + 1 : Nat) : Int) - 1) = (i : Int) := by rw [w64 (by omega) (by omega)]; omega
  have c1 : ((i + 1 : Nat) : Int) < (l.length : Int) := by omega
  have c2 : 0 ≤ (i : Int) := by omega
  have c3 : (i : Int) < (l.length : Int) := by omega
  have c4 : 0 ≤ ((i + 1 : Nat) : Int) := by omega
  obtain ⟨i1, i2⟩ := ih (i + 1) k (by omega) (by omega)
  have e : riseB (l.drop i) = (lt (key l[i]) (key l[i + 1]) && riseB (l.drop (i + 1))) := by rw [drop_at hlt, drop_at hl2, riseB]
  rw [e]
  refine ⟨?_, ?_⟩
  ·
   simp only [row_rise.l0]
   rw [ew, if_pos c1, if_pos c2, if_pos c3, if_pos c4, rdR hlt, rdR hl2, before_eq _ _ (by omega), Option.bind_some, w64s (by omega), i1]
   cases lt (key l[i]) (key l[i + 1]) <;> rfl
  ·
   simp only [r08_rise.l0]
   rw [ew, if_pos c1, if_pos c2, if_pos c3, if_pos c4, rdR hlt, rdR hl2, rbefore_eq, Option.bind_some, w64s (by omega), i2]
   cases lt (key l[i]) (key l[i + 1]) <;> rfl
theorem rise_eq {l : List Rw} (hl : l.length ≤ 100000) {k : Nat} (hk : l.length + 6 < k) : row_rise.f k l = some (riseB l) ∧ r08_rise.f k l = some (riseB l) := by
 unfold row_rise.f r08_rise.f
 cases l with
 | nil =>
  obtain ⟨k, rfl⟩ := succ_of (show 0 < k by omega)
  simp only [row_rise.l0, r08_rise.l0]
  rw [if_neg (by simp), if_neg (by simp)]
  exact ⟨rfl, rfl⟩
 | cons x r =>
  have := rise_l0 hl r.length 0 k (by rw [List.length_cons]; omega) (by rw [List.length_cons] at hk; omega)
  exact this
def okR (x : Rw) : Bool := decide (grp (bl x.f1) = 0)
def rightS (l : List Rw) : Bool := riseB l && l.all okR
def ShR (l : List Rw) : Prop := ∀ x ∈ l, x.f1.size ≤ 900
theorem grow_eq {x : Rw} (h : x.f1.size ≤ 900) {k : Nat} (hk : 30000 ≤ k) : row_group.f k x.f1 = some (grp (bl x.f1)) ∧ r08_group.f k x.f1 = some (grp (bl x.f1)) := by
 have := group_eq (s := bl x.f1) (by rw [bl_len]; omega) hk
 rw [bl_eta] at this
 exact this
theorem ok_l0 {l : List Rw} (hs : ShR l) (hl : l.length ≤ 1000) (d : Nat) : ∀ (i k : Nat), i + d = l.length → d + 30000 < k →
 ∃ r : Int, api_Row_with_115_146.l0 k l (l.length : Int) (i : Int) = some r ∧ decide (r ≥ 0) = !((l.drop i).all okR) := by
 induction d with
 | zero =>
  intro i k hi hk
  obtain ⟨k, rfl⟩ := succ_of (show 0 < k by omega)
  simp only [api_Row_with_115_146.l0]
  rw [if_neg (by omega), List.drop_of_length_le (by omega)]
  exact ⟨-1, rfl, rfl⟩
 | succ d ih =>
  intro i k hi hk
  obtain ⟨k, rfl⟩ := succ_of (show 0 < k by omega)
  have hlt : i < l.length := by omega
  simp only [api_Row_with_115_146.l0]
  unfold row_Right_1.f
  rw [if_pos (by omega), if_pos (by omega), if_pos (by omega), rdR hlt, (grow_eq (hs _ (List.getElem_mem hlt)) (by omega)).1, Option.bind_some, Option.bind_some, w64s (by omega), drop_at hlt, List.all_cons]
  unfold okR
  by_cases h : grp (bl l[i].f1) = 0
  ·
   rw [h, if_neg (by decide), decide_eq_true rfl, Bool.true_and]
   exact ih (i + 1) k (by omega) (by omega)
  ·
   rw [if_pos (bne_iff_ne.mpr h), decide_eq_false h, Bool.false_and]
   exact ⟨(i : Int), rfl, decide_eq_true (by omega)⟩
theorem rok_l0 {l : List Rw} (hs : ShR l) (hl : l.length ≤ 1000) (d : Nat) : ∀ (i k : Nat), i + d = l.length → d + 32000 < k →
 r08_Right.l0 k l (i : Int) = some ((l.drop i).all okR && riseB l) := by
 induction d with
 | zero =>
  intro i k hi hk
  obtain ⟨k, rfl⟩ := succ_of (show 0 < k by omega)
  simp only [r08_Right.l0]
  rw [if_neg (by omega), List.drop_of_length_le (by omega), (rise_eq (l := l) (by omega) (by omega)).2, Option.bind_some]
  rfl
 | succ d ih =>
  intro i k hi hk
  obtain ⟨k, rfl⟩ := succ_of (show 0 < k by omega)
  have hlt : i < l.length := by omega
  simp only [r08_Right.l0]
  rw [if_pos (by omega), if_pos (by omega), rdR hlt, (grow_eq (hs _ (List.getElem_mem hlt)) (by omega)).2, Option.bind_some, w64s (by omega), ih (i + 1) k (by omega) (by omega), drop_at hlt, List.all_cons]
  unfold okR
  by_cases h : grp (bl l[i].f1) = 0
  ·
   rw [if_pos h, decide_eq_true h, Bool.true_and]
  ·
   rw [if_neg h, decide_eq_false h, Bool.false_and, Bool.false_and]
theorem right_eq {l : List Rw} (hs : ShR l) (hl : l.length ≤ 1000) {k : Nat} (hk : 35000 ≤ k) : row_Right.f k l = some (rightS l) ∧ r08_Right.f k l = some (rightS l) := by
 refine ⟨?_, ?_⟩
 ·
  obtain ⟨r, e1, e2⟩ := ok_l0 hs hl l.length 0 k (by omega) (by omega)
  rw [List.drop_zero] at e2
  unfold row_Right.f api_Row_with_115_114.f api_Row_with_115_146.f rightS
  rw [(rise_eq (l := l) (by omega) (by omega)).1, Option.bind_some, show (0 : Int) = ((0 : Nat) : Int) from rfl, e1, Option.bind_some, Option.bind_some, show ((0 : Nat) : Int) = 0 from rfl, e2, Bool.not_not]
  cases riseB l <;> rfl
 ·
  have h := rok_l0 hs hl l.length 0 k (by omega) (by omega)
  rw [List.drop_zero] at h
  unfold r08_Right.f rightS
  rw [Bool.and_comm]
  exact h
end Go.Proofs.YteckidchnicjeaaGreatDoor.Pure
end
section
namespace Go.Proofs.YteckidchnicjeaaGreatDoor.Pure
open Go.RowKit Go.Proofs.YteckidchnicjeaaGreatDoor.X Go.Proofs.YteckidchnicjeaaGreatDoorW.PrintWords Go.Proofs.YteckidchnicjeaaGreatDoorW.PrintLast Go.Proofs.YteckidchnicjeaaGreatDoorW.PrintMore Go.Proofs.YteckidchnicjeaaGreatDoor.Aid Go.Proofs.YteckidchnicjeaaGreatDoor.Bytes Go.Proofs.YteckidchnicjeaaGreatDoor.Decs
theorem mem_glue {x : T} : ∀ {L : List T} {p : T}, p ∈ glue x L → ∃ q, p = x ++ q ∧ (q ∈ L ∨ q = []) ∨ p ∈ L
 | [], p, h => ⟨[], .inl ⟨by simpa [glue] using h, .inr rfl⟩⟩
 | y :: L, p, h => by
  unfold glue at h
  rcases List.mem_cons.1 h with h | h
  ·
   exact ⟨y, .inl ⟨h, .inl List.mem_cons_self⟩⟩
  ·
   exact ⟨[], .inr (List.mem_cons_of_mem _ h)⟩
theorem spl_out (c : UInt8) : ∀ (l p : T), p ∈ spl c l → c ∉ p
 | [], p, h => by
  rw [List.mem_singleton.1 h]
  simp
 | x :: l, p, h => by
  rw [spl_cons] at h
  by_cases hx : x = c
  ·
   rw [if_pos hx] at h
   rcases List.mem_cons.1 h with rfl | h
   ·
    simp
   ·
    exact spl_out c l p h
  ·
   rw [if_neg hx] at h
   obtain ⟨q, h | h⟩ := mem_glue h
   ·
    obtain ⟨rfl, hq⟩ := h
    rw [List.singleton_append, List.mem_cons]
    rintro (e | e)
    ·
     exact hx e.symm
    ·
     rcases hq with hq | rfl
     ·
      exact spl_out c l q hq e
     ·
      simp at e
   ·
    exact spl_out c l p h
def zR : Rw := ⟨0, ⟨#[]⟩, ⟨0, false⟩⟩
def oneR (t : T) : Rw × Int :=
 match spl 124 t with
 | [a, b, c] => if (readS a).2 = 0 then (if grp b = 0 then (if (parseS c).2.2 = 0 then (⟨(readS a).1, mk b, ⟨(parseS c).1, (parseS c).2.1⟩⟩, 0) else (zR, (parseS c).2.2)) else (zR, grp b)) else (zR, (readS a).2)
 | _ => (zR, 2)
theorem oneR_3 {t a b c : T} (h : spl 124 t = [a, b, c]) : oneR t = if (readS a).2 = 0 then (if grp b = 0 then (if (parseS c).2.2 = 0 then (⟨(readS a).1, mk b, ⟨(parseS c).1, (parseS c).2.1⟩⟩, 0) else (zR, (parseS c).2.2)) else (zR, grp b)) else (zR, (readS a).2) := by
 unfold oneR
 rw [h]
theorem oneR_o {t : T} (h : (spl 124 t).length ≠ 3) : oneR t = (zR, 2) := by
 unfold oneR
 match hs : spl 124 t, h with
 | [], _ => rfl
 | [a], _ => rfl
 | [a, b], _ => rfl
 | [a, b, c], h => exact absurd rfl h
 | a :: b :: c :: d :: L, _ => rfl
def Tells (x : Option (Int × ByteArray × Int × Bool × Int)) (y : Rw × Int) : Prop := ∃ (w : Int) (g : ByteArray) (v : Int) (o : Bool), x = some (w, g, v, o, y.2) ∧ (y.2 = 0 → (⟨w, g, ⟨v, o⟩⟩ : Rw) = y.1)
theorem three {L : List T} (h : L.length = 3) : ∃ a b c, L = [a, b, c] := by
 match L, h with
 | [a, b, c], _ => exact ⟨a, b, c, rfl⟩
theorem r0 (a b c : T) : rdOf ByteArray.empty ([a, b, c].map mk) 0 = mk a := rfl
theorem r1 (a b c : T) : rdOf ByteArray.empty ([a, b, c].map mk) 1 = mk b := rfl
theorem r2 (a b c : T) : rdOf ByteArray.empty ([a, b, c].map mk) 2 = mk c := rfl
theorem one_tells {t : T} (ht : t.length ≤ 600) {k : Nat} (hk : 30000 ≤ k) : Tells (row_one.f k (mk t)) (oneR t) := by
 unfold row_one.f
 rw [show (124 : Int) = ((124 : UInt8).toNat : Int) from rfl, split_eq 124 (by omega) k (by omega), Option.bind_some]
 by_cases h : (spl 124 t).length = 3
 ·
  obtain ⟨a, b, c, hs⟩ := three h
  have sa := spl_short 124 t a (by rw [hs]; simp)
  have sb := spl_short 124 t b (by rw [hs]; simp)
  have sc := spl_short 124 t c (by rw [hs]; simp)
  rw [hs, oneR_3 hs, if_pos (by simp), if_pos (by simp), r0, r1, r2, read_eq (by omega), Option.bind_some]
  by_cases h1 : (readS a).2 = 0
  ·
   rw [if_pos h1, if_pos h1, if_pos (by simp), (group_eq (by omega) hk).1, Option.bind_some]
   by_cases h2 : grp b = 0
   ·
    rw [if_pos h2, if_pos h2, if_pos (by simp), parse_eq' (by omega), Option.bind_some]
    by_cases h3 : (parseS c).2.2 = 0
    ·
     rw [if_pos h3]
     exact ⟨_, _, _, _, by rw [h3], fun _ => rfl⟩
    ·
     rw [if_neg h3]
     exact ⟨_, _, _, _, rfl, fun e => absurd e h3⟩
   ·
    rw [if_neg h2, if_neg h2]
    exact ⟨_, _, _, _, rfl, fun e => absurd e h2⟩
  ·
   rw [if_neg h1, if_neg h1]
   exact ⟨_, _, _, _, rfl, fun e => absurd e h1⟩
 ·
  rw [oneR_o h, if_neg (by rw [List.length_map]; omega)]
  exact ⟨_, _, _, _, rfl, fun e => absurd e (by decide)⟩
def rowsP : List T → List Rw → List Rw × Int
 | [], acc => if riseB acc = true then (acc, 0) else ([], 9)
 | t :: L, acc => if (oneR t).2 = 0 then rowsP L (acc ++ [(oneR t).1]) else ([], (oneR t).2)
def parseR (s : T) : List Rw × Int := if s = [45] then ([], 0) else rowsP (spl 59 s) []
theorem rdm {L : List T} {i : Nat} (h : i < L.length) : rdOf ByteArray.empty (L.map mk) (i : Int) = mk L[i] := by
 rw [rdOf_at (by rw [List.length_map]; exact h)]
 simp
theorem lines_l0 {L : List T} (hL : ∀ p ∈ L, p.length ≤ 600) (hn : L.length ≤ 1000) (d : Nat) : ∀ (i k : Nat) (acc : List Rw), i + d = L.length → d + 40000 < k → acc.length ≤ i →
 row_Parse.l0 k acc (L.map mk) (L.length : Int) (i : Int) = some (rowsP (L.drop i) acc) := by
 induction d with
 | zero =>
  intro i k acc hi hk ha
  obtain ⟨k, rfl⟩ := succ_of (show 0 < k by omega)
  obtain ⟨e1, e2⟩ := rise_eq (l := acc) (by omega) (k := k) (by omega)
  simp only [row_Parse.l0]
  rw [if_neg (by omega), List.drop_of_length_le (by omega), e1, rowsP]
  simp only [Option.bind_some]
  split
  ·
   rfl
  ·
   rfl
 | succ d ih =>
  intro i k acc hi hk ha
  obtain ⟨k, rfl⟩ := succ_of (show 0 < k by omega)
  have hlt : i < L.length := by omega
  have hp := hL _ (List.getElem_mem hlt)
  obtain ⟨w, g, v, o, e1, f1⟩ := one_tells hp (k := k) (by omega)
  simp only [row_Parse.l0]
  rw [List.length_map, if_pos (by omega), if_pos (by omega), if_pos (by omega), rdm hlt, e1, drop_at hlt, rowsP, w64s (by omega)]
  simp only [Option.bind_some]
  by_cases h : (oneR L[i]).2 = 0
  ·
   rw [if_pos h, if_pos h, if_pos (by omega), f1 h]
   exact ih (i + 1) k _ (by omega) (by omega) (by rw [List.length_append, List.length_singleton]; omega)
  ·
   rw [if_neg h, if_neg h]
theorem rows_parse {s : T} (hs : s.length ≤ 600) {k : Nat} (hk : 41500 ≤ k) : row_Parse.f k (mk s) = some (parseR s) := by
 unfold row_Parse.f parseR
 rw [mk_toList]
 by_cases h : s = [45]
 ·
  rw [if_pos h, if_pos h]
 ·
  have hl := spl_len 59 s
  have := lines_l0 (L := spl 59 s) (fun p hp => by have := spl_short 59 s p hp; omega) (by omega) (spl 59 s).length 0 k [] (by omega) (by omega) (by simp)
  rw [if_neg h, if_neg h, show (59 : Int) = ((59 : UInt8).toNat : Int) from rfl, split_eq 59 (by omega) k (by omega), Option.bind_some, List.length_map]
  exact this
theorem oneR_back {t : T} (h : (oneR t).2 = 0) (ht : t.length ≤ 600) : rowT (oneR t).1 = t ∧ GRow (oneR t).1 := by
 by_cases hl : (spl 124 t).length = 3
 ·
  obtain ⟨a, b, c, hs⟩ := three hl
  have sb := spl_short 124 t b (by rw [hs]; simp)
  rw [oneR_3 hs] at h ⊢
  by_cases h1 : (readS a).2 = 0
  ·
   rw [if_pos h1] at h ⊢
   by_cases h2 : grp b = 0
   ·
    rw [if_pos h2] at h ⊢
    by_cases h3 : (parseS c).2.2 = 0
    ·
     rw [if_pos h3]
     obtain ⟨i1, e1⟩ := read_back h1
     obtain ⟨i2, e2⟩ := parse_back h3
     have hj := join_spl 124 t
     rw [hs] at hj
     refine ⟨?_, i1, by show (mk b).size ≤ 1000; rw [mk_size]; omega, i2⟩
     unfold rowT
     show Lib.itoa (readS a).1 ++ [124] ++ bl (mk b) ++ [124] ++ txt (parseS c).1 (parseS c).2.1 = t
     rw [e1, e2, show bl (mk b) = b from mk_data b]
     conv => rhs; rw [← hj]
     simp [Lib.join_cons, Lib.joinTail]
    ·
     rw [if_neg h3] at h
     exact absurd h h3
   ·
    rw [if_neg h2] at h
    exact absurd h h2
  ·
   rw [if_neg h1] at h
   exact absurd h h1
 ·
  rw [oneR_o hl] at h
  exact absurd h (by decide)
theorem oneR_sz {t : T} (h : (oneR t).2 = 0) (ht : t.length ≤ 600) : (oneR t).1.f1.size ≤ 600 := by
 by_cases hl : (spl 124 t).length = 3
 ·
  obtain ⟨a, b, c, hs⟩ := three hl
  have sb := spl_short 124 t b (by rw [hs]; simp)
  rw [oneR_3 hs] at h ⊢
  by_cases h1 : (readS a).2 = 0
  ·
   rw [if_pos h1] at h ⊢
   by_cases h2 : grp b = 0
   ·
    rw [if_pos h2] at h ⊢
    by_cases h3 : (parseS c).2.2 = 0
    ·
     rw [if_pos h3]
     show (mk b).size ≤ 600
     rw [mk_size]
     omega
    ·
     rw [if_neg h3] at h
     exact absurd h h3
   ·
    rw [if_neg h2] at h
    exact absurd h h2
  ·
   rw [if_neg h1] at h
   exact absurd h h1
 ·
  rw [oneR_o hl] at h
  exact absurd h (by decide)
theorem parseR_one {t : T} (h : t ≠ [45]) (h2 : (59 : UInt8) ∉ t) : parseR t = if (oneR t).2 = 0 then ([(oneR t).1], 0) else ([], (oneR t).2) := by
 unfold parseR
 rw [if_neg h, spl_no 59 t h2, rowsP]
 split
 ·
  rw [rowsP]
  rfl
 ·
  rfl
end Go.Proofs.YteckidchnicjeaaGreatDoor.Pure
end
section
namespace Go.Proofs.YteckidchnicjeaaGreatDoor.Pure
open Go.RowKit Go.Proofs.YteckidchnicjeaaGreatDoor.X Go.Proofs.YteckidchnicjeaaGreatDoorW.PrintWords Go.Proofs.YteckidchnicjeaaGreatDoorW.PrintLast Go.Proofs.YteckidchnicjeaaGreatDoorW.PrintMore Go.Proofs.YteckidchnicjeaaGreatDoor.Aid Go.Proofs.YteckidchnicjeaaGreatDoor.Bytes
abbrev Ch := S78
def newC (x : Rw) : Ch := ⟨x, false⟩
def ck (c : Ch) : Key := key c.f0
noncomputable instance : DecidableEq Rw := Classical.typeDecidableEq _
end Go.Proofs.YteckidchnicjeaaGreatDoor.Pure
end
section
namespace Go.Proofs.YteckidchnicjeaaGreatDoor.Pure
open Go.RowKit Go.Proofs.YteckidchnicjeaaGreatDoor.X Go.Proofs.YteckidchnicjeaaGreatDoorW.PrintWords Go.Proofs.YteckidchnicjeaaGreatDoorW.PrintLast Go.Proofs.YteckidchnicjeaaGreatDoorW.PrintMore Go.Proofs.YteckidchnicjeaaGreatDoor.Aid Go.Proofs.YteckidchnicjeaaGreatDoor.Bytes
theorem rdC {l : List Ch} {i : Nat} (h : i < l.length) : rd_T78 l (i : Int) = l[i] := getD_at h _
end Go.Proofs.YteckidchnicjeaaGreatDoor.Pure
end
section
namespace Go.Proofs.YteckidchnicjeaaGreatDoor.Pure
open Go.RowKit Go.Proofs.YteckidchnicjeaaGreatDoor.X Go.Proofs.YteckidchnicjeaaGreatDoorW.PrintWords Go.Proofs.YteckidchnicjeaaGreatDoorW.PrintLast Go.Proofs.YteckidchnicjeaaGreatDoorW.PrintMore Go.Proofs.YteckidchnicjeaaGreatDoor.Aid Go.Proofs.YteckidchnicjeaaGreatDoor.Bytes
def bare (c : Ch) : Bool := !c.f1 || (c.f0.f2.f0 == 0 && !c.f0.f2.f1)
def rightC (l : List Ch) : Bool := l.all bare && rightS (l.map (·.f0))
theorem bare_neg (c : Ch) (h : c.f1 = true) : ((!(c.f0.f0 == c.f0.f0) || (!(c.f0.f1.toList == c.f0.f1.toList) || (!(c.f0.f2.f0 == 0) || !(c.f0.f2.f1 == false)))) || !(c.f1 == true)) = !bare c := by
 unfold bare
 rw [h]
 cases c.f0.f2.f1 <;> simp
theorem cright_l0 {l : List Ch} (hs : ShR (l.map (·.f0))) (hl : l.length ≤ 1000) (d : Nat) : ∀ (i k : Nat), i + d = l.length → d + 36000 < k → (∀ c ∈ l.take i, bare c = true) →
 diff_right.l0 k ((l.take i).map (·.f0)) l (l.length : Int) (i : Int) = some (rightC l) := by
 induction d with
 | zero =>
  intro i k hi hk hb
  obtain ⟨k, rfl⟩ := succ_of hk
  have ht : l.take i = l := List.take_of_length_le (by omega)
  rw [ht] at hb ⊢
  simp only [diff_right.l0]
  rw [if_neg (by omega), (right_eq hs (by rw [List.length_map]; exact hl) (by omega)).1, Option.bind_some]
  unfold rightC
  rw [List.all_eq_true.2 hb, Bool.true_and]
 | succ d ih =>
  intro i k hi hk hb
  obtain ⟨k, rfl⟩ := succ_of hk
  have hlt : i < l.length := by omega
  have h0 : (l.take (i + 1)).map (·.f0) = (l.take i).map (·.f0) ++ [l[i].f0] := by rw [take_at hlt, List.map_append]; rfl
  have hlen : ((l.take i).map (·.f0)).length < 3518437208883 := by rw [List.length_map, List.length_take]; omega
  simp only [diff_right.l0]
  rw [if_pos (by omega), if_pos (by omega), if_pos (by omega), rdC hlt, w64s (by omega)]
  have hnext : bare l[i] = true → diff_right.l0 k ((l.take i).map (·.f0) ++ [l[i].f0]) l (l.length : Int) ((i + 1 : Nat) : Int) = some (rightC l) := fun hbi => by
   rw [← h0]
   refine ih (i + 1) k (by omega) (by omega) fun c hc => ?_
   rw [take_at hlt, List.mem_append, List.mem_singleton] at hc
   rcases hc with hc | rfl
   ·
    exact hb c hc
   ·
    exact hbi
  by_cases hg : l[i].f1 = true
  ·
   rw [if_pos hg]
   simp only [diff_gone.f, Option.bind_some]
   rw [bare_neg _ hg]
   by_cases hbi : bare l[i] = true
   ·
    rw [hbi, if_neg (by decide), if_pos hlen]
    exact hnext hbi
   ·
    rw [Bool.eq_false_iff.2 hbi, if_pos (show (!false) = true from rfl)]
    unfold rightC
    have : l.all bare = false := by
     rw [Bool.eq_false_iff]
     intro h
     exact hbi (List.all_eq_true.1 h _ (List.getElem_mem hlt))
    rw [this, Bool.false_and]
  ·
   rw [if_neg hg, if_pos hlen]
   exact hnext (by unfold bare; rw [Bool.eq_false_iff.2 hg]; rfl)
theorem cright_eq {l : List Ch} (hs : ShR (l.map (·.f0))) (hl : l.length ≤ 1000) {k : Nat} (hk : 37100 ≤ k) : diff_right.f k l = some (rightC l) :=
 cright_l0 hs hl l.length 0 k (by omega) (by omega) (fun c hc => by simp at hc)
end Go.Proofs.YteckidchnicjeaaGreatDoor.Pure
end
section
namespace Go.Proofs.YteckidchnicjeaaGreatDoor.Pure
open Go.RowKit Go.Proofs.YteckidchnicjeaaGreatDoor.X Go.Proofs.YteckidchnicjeaaGreatDoorW.PrintWords Go.Proofs.YteckidchnicjeaaGreatDoorW.PrintLast Go.Proofs.YteckidchnicjeaaGreatDoorW.PrintMore Go.Proofs.YteckidchnicjeaaGreatDoor.Aid Go.Proofs.YteckidchnicjeaaGreatDoor.Bytes
def chT (c : Ch) : T := if c.f1 = true then [33] ++ (Lib.itoa c.f0.f0 ++ [124] ++ bl c.f0.f1) else rowT c.f0
def chsT (l : List Ch) : T := if l = [] then [45] else Lib.join (l.map chT) [59]
def GCh (l : List Ch) : Prop := l.length ≤ 1000 ∧ ∀ c ∈ l, GRow c.f0
theorem chT_len {c : Ch} (h : GRow c.f0) : (chT c).length ≤ 1300 := by
 have h1 := rowT_len h
 have h0 := itoa_len h.1
 have h2 := h.2.1
 have h3 := bl_len c.f0.f1
 unfold chT
 split
 ·
  simp only [List.length_append, List.length_singleton]
  omega
 ·
  exact h1
theorem chs_tot {l : List Ch} (h : GCh l) : tot (l.map chT) ≤ 1300000 := by
 have h1 := tot_le 1300 (l.map chT) (fun x hx => by
  obtain ⟨y, hy, rfl⟩ := List.mem_map.mp hx
  exact chT_len (h.2 y hy))
 rw [List.length_map] at h1
 have := h.1
 omega
theorem one_row {x : Rw} (h : GRow x) {k : Nat} (hk : 2200 ≤ k) : row_Text.f k [x] = some (mk (rowT x)) := by
 have g : GRows [x] := ⟨by simp, fun y hy => by rw [List.mem_singleton] at hy; rw [hy]; exact h⟩
 have e : rowsT [x] = rowT x := by
  unfold rowsT
  rw [if_neg (by simp), List.map_cons, List.map_nil, Lib.join_one]
 have a := rows_eq g (k := k) (by omega)
 rw [e] at a
 exact a
theorem num_grp {x : Rw} (h : GRow x) : word_Join.f (⟨#[124]⟩ : ByteArray) [mk (Lib.itoa x.f0), x.f1] = some (mk (Lib.itoa x.f0 ++ [124] ++ bl x.f1)) := by
 have h0 := itoa_len h.1
 have h1 := h.2.1
 have h2 := bl_len x.f1
 have := join_eq (L := [Lib.itoa x.f0, bl x.f1]) (s := [124]) (by simp) (by rw [join2]; simp only [List.length_append, List.length_singleton]; omega)
 rw [join2, List.map_cons, List.map_cons, bl_eta] at this
 exact this
theorem ctext_l0 {l : List Ch} (h : GCh l) (d : Nat) : ∀ (i k : Nat), i + d = l.length → d + 2300 < k →
 diff_Text.l0 k ((l.take i).map fun x => mk (chT x)) l (l.length : Int) (i : Int) = some (mk (Lib.join (l.map chT) [59])) := by
 have hl := h.1
 induction d with
 | zero =>
  intro i k hi hk
  obtain ⟨k, rfl⟩ := succ_of (show 0 < k by omega)
  have hj := join_len [59] (l.map chT)
  have ht := chs_tot h
  rw [List.length_map, List.length_singleton] at hj
  have e := join_eq (L := l.map chT) (s := [59]) (by rw [List.length_map]; omega) (by omega)
  rw [List.map_map] at e
  simp only [diff_Text.l0]
  rw [if_neg (by omega), List.take_of_length_le (by omega)]
  have e2 : word_Join.f (⟨#[59]⟩ : ByteArray) (l.map fun x => mk (chT x)) = some (mk (Lib.join (l.map chT) [59])) := e
  rw [e2, Option.bind_some]
 | succ d ih =>
  intro i k hi hk
  obtain ⟨k, rfl⟩ := succ_of (show 0 < k by omega)
  have hlt : i < l.length := by omega
  have hx := h.2 _ (List.getElem_mem hlt)
  have e2 : ((l.take i).map fun x => mk (chT x)) ++ [mk (chT l[i])] = (l.take (i + 1)).map fun x => mk (chT x) := by rw [take_at hlt, List.map_append]; rfl
  have hlen : ((l.take i).map fun x => mk (chT x)).length < 8796093022208 := by rw [List.length_map, List.length_take]; omega
  have hih := ih (i + 1) k (by omega) (by omega)
  have c1 : (i : Int) < (l.length : Int) := by omega
  have c2 : 0 ≤ (i : Int) := by omega
  simp only [diff_Text.l0]
  rw [if_pos c1, if_pos c2, if_pos c1, rdC hlt]
  by_cases hc : l[i].f1 = true
  ·
   have e : chT l[i] = [33] ++ (Lib.itoa l[i].f0.f0 ++ [124] ++ bl l[i].f0.f1) := by unfold chT; rw [if_pos hc]
   have em : (⟨#[33]⟩ : ByteArray) ++ mk (Lib.itoa l[i].f0.f0 ++ [124] ++ bl l[i].f0.f1) = mk (chT l[i]) := by
    rw [e]
    exact mk_append [33] _
   have hcl := chT_len hx
   rw [e, List.length_append] at hcl
   rw [if_pos hc, format_eq hx.1, Option.bind_some, num_grp hx, Option.bind_some, em, mk_size, if_pos (by omega), if_pos hlen, e2, w64s (by omega), hih]
  ·
   have e : chT l[i] = rowT l[i].f0 := by unfold chT; rw [if_neg hc]
   have e1 := one_row hx (k := k) (by omega)
   have e1' : row_Text.f k [(⟨l[i].f0.f0, l[i].f0.f1, (⟨l[i].f0.f2.f0, l[i].f0.f2.f1⟩ : S58)⟩ : Rw)] = some (mk (chT l[i])) := by rw [e]; exact e1
   rw [if_neg hc, e1', Option.bind_some, if_pos hlen, e2, w64s (by omega), hih]
theorem ctext_eq {l : List Ch} (h : GCh l) {k : Nat} (hk : 3400 ≤ k) : diff_Text.f k l = some (mk (chsT l)) := by
 have hl := h.1
 unfold diff_Text.f chsT
 by_cases c : l = []
 ·
  subst c
  rfl
 ·
  have : l.length ≠ 0 := fun e => c (List.eq_nil_of_length_eq_zero e)
  rw [if_neg (by omega), if_neg c]
  exact ctext_l0 h l.length 0 k (by omega) (by omega)
end Go.Proofs.YteckidchnicjeaaGreatDoor.Pure
end
