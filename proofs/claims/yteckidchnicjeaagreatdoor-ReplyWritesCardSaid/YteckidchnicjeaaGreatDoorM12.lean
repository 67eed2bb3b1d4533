/- Plain facts on what the printed functions compute, joined; each says its conditions. -/
import Derived.Test.YteckidchnicjeaaGreatDoorM1
import Derived.Test.YteckidchnicjeaaGreatDoorM4
import Derived.Test.YteckidchnicjeaaGreatDoorM8
import Derived.Test.YteckidchnicjeaaGreatDoorM3
import Derived.Lib.ItoaNum
import Derived.Test.YteckidchnicjeaaGreatDoorM10
import Derived.Test.YteckidchnicjeaaGreatDoorM9
import Derived.Test.YteckidchnicjeaaGreatDoorM11
section
namespace Go.Proofs.YteckidchnicjeaaGreatDoor.Pure
open Go.RowKit Go.Proofs.YteckidchnicjeaaGreatDoor.X Go.Proofs.YteckidchnicjeaaGreatDoorW.PrintWords Go.Proofs.YteckidchnicjeaaGreatDoorW.PrintLast Go.Proofs.YteckidchnicjeaaGreatDoorW.PrintMore Go.Proofs.YteckidchnicjeaaGreatDoor.Aid Go.Proofs.YteckidchnicjeaaGreatDoor.Bytes
abbrev T := List UInt8
def bl (s : ByteArray) : T := s.data.toList
theorem bl_eta (s : ByteArray) : mk (bl s) = s := mk_eta s
theorem bl_len (s : ByteArray) : (bl s).length = s.size := by rw [← mk_size, bl_eta]
theorem join_eq {L : List T} {s : T} (hn : L.length ≤ 100000) (hj : (Lib.join L s).length ≤ 100000000) : word_Join.f (mk s) (L.map mk) = some (mk (Lib.join L s)) := by
 unfold word_Join.f strings_Join.f
 rw [List.length_map, map_mk, mk_data, if_pos ⟨by omega, by omega⟩]
 rfl
def tot (L : List T) : Nat := L.flatten.length
theorem tot_cons (x : T) (L : List T) : tot (x :: L) = x.length + tot L := by simp [tot]
theorem tail_cons (s x : T) (L : List T) : Lib.joinTail s (x :: L) = s ++ x ++ Lib.joinTail s L := by simp [Lib.joinTail]
theorem tail_len (s : T) (L : List T) : (Lib.joinTail s L).length = L.length * s.length + tot L := by
 induction L with
 | nil => simp [Lib.joinTail, tot]
 | cons x L ih =>
  have : Lib.joinTail s (x :: L) = s ++ x ++ Lib.joinTail s L := by simp [Lib.joinTail]
  rw [this, tot_cons, List.length_append, List.length_append, ih, List.length_cons, Nat.succ_mul]
  omega
theorem join_len (s : T) (L : List T) : (Lib.join L s).length ≤ L.length * s.length + tot L := by
 cases L with
 | nil => simp [Lib.join_nil]
 | cons x L =>
  rw [Lib.join_cons, List.length_append, tail_len, tot_cons, List.length_cons, Nat.succ_mul]
  omega
theorem rjoin_l0 {L : List T} {s : T} (hn : L.length ≤ 100000) (d : Nat) : ∀ (i k : Nat) (acc : T), i + d = L.length → d < k → 0 < i → acc.length + d * s.length + tot (L.drop i) ≤ 1000000000 →
 r02_Join.l0 k (mk s) (L.map mk) (mk acc) (i : Int) = some (mk (acc ++ Lib.joinTail s (L.drop i))) := by
 induction d with
 | zero =>
  intro i k acc hi hk _ _
  obtain ⟨k, rfl⟩ := succ_of hk
  simp only [r02_Join.l0, List.length_map]
  rw [if_neg (by omega), List.drop_of_length_le (by omega)]
  simp [Lib.joinTail]
 | succ d ih =>
  intro i k acc hi hk h0 hb
  obtain ⟨k, rfl⟩ := succ_of hk
  have hlt : i < L.length := by omega
  rw [drop_at hlt, tot_cons, Nat.succ_mul] at hb
  simp only [r02_Join.l0, List.length_map]
  rw [if_pos (by omega), if_pos (by omega), mk_append, rds hlt, mk_append, mk_size, mk_size, mk_size, mk_size, List.length_append, if_pos (by omega), if_pos (by omega), if_pos (by omega), w64s (by omega), ih (i + 1) k _ (by omega) (by omega) (by omega) (by rw [List.length_append, List.length_append]; omega), drop_at hlt, tail_cons]
  simp only [List.append_assoc]
theorem rjoin_eq {L : List T} {s : T} (hn : L.length ≤ 100000) (hs : s.length ≤ 10) (ht : tot L ≤ 100000000) {k : Nat} (hk : L.length + 1 < k) : r02_Join.f k (mk s) (L.map mk) = some (mk (Lib.join L s)) := by
 obtain ⟨k, rfl⟩ := succ_of (show 0 < k by omega)
 have hm : L.length * s.length ≤ 100000 * 10 := Nat.mul_le_mul hn hs
 unfold r02_Join.f
 simp only [r02_Join.l0, List.length_map]
 cases L with
 | nil =>
  rw [if_neg (by simp)]
  rfl
 | cons x L =>
  rw [tot_cons] at ht
  rw [List.length_cons, Nat.succ_mul] at hm
  have he : ∀ y : ByteArray, (⟨#[]⟩ : ByteArray) ++ y = y := fun y => by
   have := mk_append [] y.data.toList
   rw [mk_eta, List.nil_append, mk_eta] at this
   exact this
  have hr : rdOf ByteArray.empty ((x :: L).map mk) 0 = mk x := rds (L := x :: L) (i := 0) (by simp)
  rw [if_pos (by simp only [List.length_cons]; omega), if_neg (by omega), if_pos (by omega), hr, he, mk_size, if_pos (by show 0 + x.length ≤ _; omega)]
  have h := rjoin_l0 (L := x :: L) (s := s) hn L.length 1 k x (by rw [List.length_cons]; omega) (by rw [List.length_cons] at hk; omega) (by omega) (by rw [List.drop_succ_cons, List.drop_zero]; omega)
  rw [List.drop_succ_cons, List.drop_zero, ← Lib.join_cons] at h
  rw [show wrap64 (0 + 1) = ((1 : Nat) : Int) from by unfold wrap64; omega]
  exact h
theorem tot_le (b : Nat) : ∀ (L : List T), (∀ x ∈ L, x.length ≤ b) → tot L ≤ L.length * b
 | [], _ => by simp [tot]
 | x :: L, h => by
  have h1 := h x List.mem_cons_self
  have h2 := tot_le b L (fun y hy => h y (List.mem_cons_of_mem _ hy))
  rw [tot_cons, List.length_cons, Nat.succ_mul]
  omega
end Go.Proofs.YteckidchnicjeaaGreatDoor.Pure
end
section
namespace Go.Proofs.YteckidchnicjeaaGreatDoor.Pure
open Go.RowKit Go.Proofs.YteckidchnicjeaaGreatDoor.X Go.Proofs.YteckidchnicjeaaGreatDoorW.PrintWords Go.Proofs.YteckidchnicjeaaGreatDoorW.PrintLast Go.Proofs.YteckidchnicjeaaGreatDoorW.PrintMore Go.Proofs.YteckidchnicjeaaGreatDoor.Aid Go.Proofs.YteckidchnicjeaaGreatDoor.Bytes
def I64 (a : Int) : Prop := -9223372036854775808 ≤ a ∧ a ≤ 9223372036854775807
abbrev Rw := S60
theorem rdR {l : List Rw} {i : Nat} (h : i < l.length) : rd_T60 l (i : Int) = l[i] := getD_at h _
def GRow (x : Rw) : Prop := I64 x.f0 ∧ x.f1.size ≤ 1000 ∧ I64 x.f2.f0
def GRows (l : List Rw) : Prop := l.length ≤ 1000 ∧ ∀ x ∈ l, GRow x
end Go.Proofs.YteckidchnicjeaaGreatDoor.Pure
end
section
namespace Go.Proofs.YteckidchnicjeaaGreatDoor.Pure
open Go.RowKit Go.Proofs.YteckidchnicjeaaGreatDoor.X Go.Proofs.YteckidchnicjeaaGreatDoorW.PrintWords Go.Proofs.YteckidchnicjeaaGreatDoorW.PrintLast Go.Proofs.YteckidchnicjeaaGreatDoorW.PrintMore Go.Proofs.YteckidchnicjeaaGreatDoor.Aid Go.Proofs.YteckidchnicjeaaGreatDoor.Bytes
theorem d_small {u : Nat} (h : u < 10) : Lib.decDigits u = [UInt8.ofNat (48 + u)] := by rw [Lib.decDigits, dif_pos h]
theorem d_big {u : Nat} (h : ¬ u < 10) : Lib.decDigits u = Lib.decDigits (u / 10) ++ [UInt8.ofNat (48 + u % 10)] := by rw [Lib.decDigits, dif_neg h]
theorem ofNat_dig {d : Nat} (h : d < 10) : (UInt8.ofNat (48 + d)).toNat = 48 + d := by
 rw [UInt8.toNat_ofNat']
 omega
theorem format_eq {n : Int} (h : I64 n) : sat_Number.f n = some (mk (Lib.itoa n)) := by
 unfold sat_Number.f strconv_FormatInt.f
 rw [if_pos ⟨rfl, h.1, h.2⟩, Option.bind_some]
 rfl
def sgn (n : Int) : T := if n < 0 then [45] else []
theorem itoa_sgn (n : Int) : Lib.itoa n = sgn n ++ Lib.decDigits n.natAbs := by
 unfold Lib.itoa sgn
 by_cases h : n < 0
 ·
  rw [if_pos h, if_pos h]; rfl
 ·
  rw [if_neg h, if_neg h, show n.toNat = n.natAbs by omega]; rfl
def txt (n : Int) (o : Bool) : T := if o = true then Lib.itoa n ++ [33] else Lib.itoa n
theorem itoa_len {n : Int} (h : I64 n) : (Lib.itoa n).length ≤ 100 := by
 unfold I64 at h
 have h20 : n.natAbs < 10 ^ (20 + 1) := by
  have : (10 : Nat) ^ 21 = 1000000000000000000000 := by decide
  omega
 have g : ∀ (d u : Nat), u < 10 ^ (d + 1) → (Lib.decDigits u).length ≤ d + 1 := by
  intro d
  induction d with
  | zero => intro u hu; rw [d_small (by simpa using hu)]; simp
  | succ d ih =>
   intro u hu
   by_cases h : u < 10
   ·
    rw [d_small h]; simp
   ·
    rw [d_big h, List.length_append, List.length_singleton]
    have := ih (u / 10) (by rw [Nat.pow_succ] at hu; omega)
    omega
 have := g 20 _ h20
 rw [itoa_sgn, List.length_append]
 unfold sgn
 split <;> simp <;> omega
theorem stext_eq {n : Int} (h : I64 n) (o : Bool) : sat_Text.f n o = some (mk (txt n o)) := by
 have hl := itoa_len h
 unfold sat_Text.f txt
 rw [format_eq h]
 cases o
 ·
  rfl
 ·
  simp only [if_true]
  rw [Option.bind_some, mk_size, if_pos (by omega), show (⟨#[33]⟩ : ByteArray) = mk [33] from rfl, mk_append]
theorem one_dig {u : Nat} : strOfNums [((48 + u % 10 : Nat) : Int)] = mk [UInt8.ofNat (48 + u % 10)] := by
 have e := ofNat_dig (show u % 10 < 10 by omega)
 rw [← one_mk, e]
theorem tmod_neg (u : Nat) : Int.tmod (-(u : Int)) 10 = -((u % 10 : Nat) : Int) := by
 rw [Int.neg_tmod]
 rfl
theorem tdiv_neg (u : Nat) : Int.tdiv (-(u : Int)) 10 = -((u / 10 : Nat) : Int) := by
 rw [Int.neg_tdiv]
 rfl
end Go.Proofs.YteckidchnicjeaaGreatDoor.Pure
end
section
namespace Go.Proofs.YteckidchnicjeaaGreatDoor.Pure
open Go.RowKit Go.Proofs.YteckidchnicjeaaGreatDoor.X Go.Proofs.YteckidchnicjeaaGreatDoorW.PrintWords Go.Proofs.YteckidchnicjeaaGreatDoorW.PrintLast Go.Proofs.YteckidchnicjeaaGreatDoorW.PrintMore Go.Proofs.YteckidchnicjeaaGreatDoor.Aid Go.Proofs.YteckidchnicjeaaGreatDoor.Bytes
def rowT (x : Rw) : T := Lib.itoa x.f0 ++ [124] ++ bl x.f1 ++ [124] ++ txt x.f2.f0 x.f2.f1
def rowsT (l : List Rw) : T := if l = [] then [45] else Lib.join (l.map rowT) [59]
theorem txt_len {n : Int} (h : I64 n) (o : Bool) : (txt n o).length ≤ 101 := by
 have := itoa_len h
 unfold txt
 split
 ·
  rw [List.length_append, List.length_singleton]; omega
 ·
  omega
theorem rowT_len {x : Rw} (h : GRow x) : (rowT x).length ≤ 1300 := by
 obtain ⟨h0, h1, h2⟩ := h
 have a := itoa_len h0
 have b := txt_len h2 x.f2.f1
 unfold rowT
 simp only [List.length_append, List.length_singleton, bl_len]
 omega
theorem rows_tot {l : List Rw} (h : GRows l) : tot (l.map rowT) ≤ 1300000 := by
 have h1 := tot_le 1300 (l.map rowT) (fun x hx => by
  obtain ⟨y, hy, rfl⟩ := List.mem_map.mp hx
  exact rowT_len (h.2 y hy))
 rw [List.length_map] at h1
 have := h.1
 omega
theorem rowsT_len {l : List Rw} (h : GRows l) : (rowsT l).length ≤ 1310000 := by
 unfold rowsT
 split
 ·
  simp
 ·
  have h1 := join_len [59] (l.map rowT)
  have h2 := rows_tot h
  have h3 := h.1
  rw [List.length_map, List.length_singleton] at h1
  omega
theorem row_one {x : Rw} (h : GRow x) : word_Join.f (mk [124]) [mk (Lib.itoa x.f0), x.f1, mk (txt x.f2.f0 x.f2.f1)] = some (mk (rowT x)) := by
 have e : Lib.join [Lib.itoa x.f0, bl x.f1, txt x.f2.f0 x.f2.f1] [124] = rowT x := by
  rw [Lib.join_cons, tail_cons, tail_cons]
  simp [rowT, Lib.joinTail]
 have hl := rowT_len h
 have := join_eq (L := [Lib.itoa x.f0, bl x.f1, txt x.f2.f0 x.f2.f1]) (s := [124]) (by simp) (by rw [e]; omega)
 rw [e, List.map_cons, List.map_cons, List.map_cons, bl_eta] at this
 exact this
theorem rows_l0 {l : List Rw} (h : GRows l) (d : Nat) : ∀ (i k : Nat), i + d = l.length → d < k →
 row_Text.l0 k ((l.take i).map fun x => mk (rowT x)) l (l.length : Int) (i : Int) = some (mk (Lib.join (l.map rowT) [59])) := by
 have hl := h.1
 induction d with
 | zero =>
  intro i k hi hk
  obtain ⟨k, rfl⟩ := succ_of hk
  have hj := join_len [59] (l.map rowT)
  have ht := rows_tot h
  rw [List.length_map, List.length_singleton] at hj
  have e := join_eq (L := l.map rowT) (s := [59]) (by rw [List.length_map]; omega) (by omega)
  rw [List.map_map] at e
  simp only [row_Text.l0]
  rw [if_neg (by omega), List.take_of_length_le (by omega)]
  have e2 : word_Join.f (⟨#[59]⟩ : ByteArray) (l.map fun x => mk (rowT x)) = some (mk (Lib.join (l.map rowT) [59])) := e
  rw [e2, Option.bind_some]
 | succ d ih =>
  intro i k hi hk
  obtain ⟨k, rfl⟩ := succ_of hk
  have hlt : i < l.length := by omega
  have hx := h.2 _ (List.getElem_mem hlt)
  have e := row_one hx
  have e2 : ((l.take i).map fun x => mk (rowT x)) ++ [mk (rowT l[i])] = (l.take (i + 1)).map fun x => mk (rowT x) := by rw [take_at hlt, List.map_append]; rfl
  simp only [row_Text.l0]
  rw [if_pos (by omega), if_pos (by omega), if_pos (by omega), rdR hlt, format_eq hx.1, Option.bind_some, stext_eq hx.2.2 l[i].f2.f1, Option.bind_some]
  have e' : word_Join.f (⟨#[124]⟩ : ByteArray) [mk (Lib.itoa l[i].f0), l[i].f1, mk (txt l[i].f2.f0 l[i].f2.f1)] = some (mk (rowT l[i])) := e
  rw [e', Option.bind_some, if_pos (by rw [List.length_map, List.length_take]; omega), w64s (by omega), e2]
  exact ih (i + 1) k (by omega) (by omega)
theorem rows_eq {l : List Rw} (h : GRows l) {k : Nat} (hk : 1010 ≤ k) : row_Text.f k l = some (mk (rowsT l)) := by
 have hl := h.1
 unfold row_Text.f rowsT
 by_cases c : l = []
 ·
  subst c
  rfl
 ·
  have : l.length ≠ 0 := fun e => c (List.eq_nil_of_length_eq_zero e)
  rw [if_neg (by omega), if_neg c]
  exact rows_l0 h l.length 0 k (by omega) (by omega)
end Go.Proofs.YteckidchnicjeaaGreatDoor.Pure
end
section
namespace Go.Proofs.YteckidchnicjeaaGreatDoor.Pure
open Go.RowKit Go.Proofs.YteckidchnicjeaaGreatDoor.X Go.Proofs.YteckidchnicjeaaGreatDoorW.PrintWords Go.Proofs.YteckidchnicjeaaGreatDoorW.PrintLast Go.Proofs.YteckidchnicjeaaGreatDoorW.PrintMore Go.Proofs.YteckidchnicjeaaGreatDoor.Aid Go.Proofs.YteckidchnicjeaaGreatDoor.Bytes
def ansT (b : Int) (l : List Rw) : T := [114, 111, 119, 115, 32] ++ Lib.itoa b ++ [32] ++ rowsT l
theorem ans_eq (a : Int) {b : Int} {l : List Rw} (hb : I64 b) (h : GRows l) {k : Nat} (hk : 2200 ≤ k) : reply_Rows.f k a b l = some (mk (ansT b l)) := by
 have h1 := itoa_len hb
 have h2 := rowsT_len h
 have e : Lib.join [[114, 111, 119, 115], Lib.itoa b, rowsT l] [32] = ansT b l := by
  rw [Lib.join_cons, tail_cons, tail_cons]
  simp [ansT, Lib.joinTail]
 have hl : (ansT b l).length ≤ 1400000 := by
  unfold ansT
  simp only [List.length_append, List.length_cons, List.length_nil]
  omega
 have hj : word_Join.f (⟨#[32]⟩ : ByteArray) [(⟨#[114, 111, 119, 115]⟩ : ByteArray), mk (Lib.itoa b), mk (rowsT l)] = some (mk (ansT b l)) := by
  have := join_eq (L := [[114, 111, 119, 115], Lib.itoa b, rowsT l]) (s := [32]) (by simp) (by rw [e]; omega)
  rw [e] at this
  exact this
 unfold reply_Rows.f reply_say.f
 rw [format_eq hb, Option.bind_some, rows_eq h (by omega), Option.bind_some, hj]
 rfl
end Go.Proofs.YteckidchnicjeaaGreatDoor.Pure
end
section
namespace Go.Proofs.YteckidchnicjeaaGreatDoor.Pure
open Go.RowKit Go.Proofs.YteckidchnicjeaaGreatDoor.X Go.Proofs.YteckidchnicjeaaGreatDoorW.PrintWords Go.Proofs.YteckidchnicjeaaGreatDoorW.PrintLast Go.Proofs.YteckidchnicjeaaGreatDoorW.PrintMore Go.Proofs.YteckidchnicjeaaGreatDoor.Aid Go.Proofs.YteckidchnicjeaaGreatDoor.Bytes
theorem num_l0 (n : Int) (d : Nat) : ∀ (u k : Nat) (acc : T), u < 10 ^ (d + 1) → (u : Int) ≤ 9223372036854775808 → acc.length + d ≤ 1000 → d < k →
 r01_Number.l0 k n (-(u : Int)) (mk acc) = some (mk (sgn n ++ (Lib.decDigits u ++ acc))) := by
 induction d with
 | zero =>
  intro u k acc hu hm ha hk
  obtain ⟨k, rfl⟩ := succ_of hk
  rw [r01_Number.l0, tmod_neg, tdiv_neg]
  have hu' : u < 10 := by simpa using hu
  have e1 : (wrap64 (48 + (wrap64 (-(-((u % 10 : Nat) : Int)))))) % 256 = ((48 + u % 10 : Nat) : Int) := by
   rw [w64 (a := -(-((u % 10 : Nat) : Int))) (by omega) (by omega), w64 (by omega) (by omega)]
   omega
  have e2 : wrap64 (-((u / 10 : Nat) : Int)) = 0 := by rw [w64 (by omega) (by omega)]; omega
  rw [e1, e2, Option.bind_some, one_dig, mk_append, mk_size, mk_size, if_pos (by simp only [List.length_singleton]; omega), if_pos rfl, d_small hu', show u % 10 = u by omega]
  unfold sgn
  by_cases hn : n < 0
  ·
   rw [if_pos hn, if_pos hn, mk_size, if_pos (by simp only [List.length_append, List.length_singleton]; omega), show (⟨#[45]⟩ : ByteArray) = mk [45] from rfl, mk_append]
  ·
   rw [if_neg hn, if_neg hn]
   rfl
 | succ d ih =>
  intro u k acc hu hm ha hk
  by_cases hu' : u < 10
  ·
   obtain ⟨k, rfl⟩ := succ_of hk
   rw [r01_Number.l0, tmod_neg, tdiv_neg]
   have e1 : (wrap64 (48 + (wrap64 (-(-((u % 10 : Nat) : Int)))))) % 256 = ((48 + u % 10 : Nat) : Int) := by
    rw [w64 (a := -(-((u % 10 : Nat) : Int))) (by omega) (by omega), w64 (by omega) (by omega)]
    omega
   have e2 : wrap64 (-((u / 10 : Nat) : Int)) = 0 := by rw [w64 (by omega) (by omega)]; omega
   rw [e1, e2, Option.bind_some, one_dig, mk_append, mk_size, mk_size, if_pos (by simp only [List.length_singleton]; omega), if_pos rfl, d_small hu', show u % 10 = u by omega]
   unfold sgn
   by_cases hn : n < 0
   ·
    rw [if_pos hn, if_pos hn, mk_size, if_pos (by simp only [List.length_append, List.length_singleton]; omega), show (⟨#[45]⟩ : ByteArray) = mk [45] from rfl, mk_append]
   ·
    rw [if_neg hn, if_neg hn]
    rfl
  ·
   obtain ⟨k, rfl⟩ := succ_of hk
   rw [r01_Number.l0, tmod_neg, tdiv_neg]
   have e1 : (wrap64 (48 + (wrap64 (-(-((u % 10 : Nat) : Int)))))) % 256 = ((48 + u % 10 : Nat) : Int) := by
    rw [w64 (a := -(-((u % 10 : Nat) : Int))) (by omega) (by omega), w64 (by omega) (by omega)]
    omega
   have e2 : wrap64 (-((u / 10 : Nat) : Int)) = -((u / 10 : Nat) : Int) := w64 (by omega) (by omega)
   rw [e1, e2, Option.bind_some, one_dig, mk_append, mk_size, mk_size, if_pos (by simp only [List.length_singleton]; omega), if_neg (by omega), d_big hu']
   rw [ih (u / 10) k _ (by rw [Nat.pow_succ] at hu; omega) (by omega) (by simp only [List.length_append, List.length_singleton]; omega) (by omega), List.append_assoc]
theorem number_eq {n : Int} (h : I64 n) {k : Nat} (hk : 40 ≤ k) : r01_Number.f k n = some (mk (Lib.itoa n)) := by
 unfold I64 at h
 obtain ⟨k, rfl⟩ := succ_of (show 0 < k by omega)
 have h20 : n.natAbs < 10 ^ (20 + 1) := by
  have : (10 : Nat) ^ 21 = 1000000000000000000000 := by decide
  omega
 have e := num_l0 n 20 n.natAbs k [] h20 (by omega) (by simp) (by omega)
 rw [List.append_nil, ← itoa_sgn] at e
 have e3 : (⟨#[]⟩ : ByteArray) = mk [] := rfl
 unfold r01_Number.f
 by_cases hn : n > 0
 ·
  rw [if_pos hn, r01_Number.j0, w64 (by omega) (by omega), e3, show -n = -(n.natAbs : Int) by omega]
  exact e
 ·
  rw [if_neg hn, r01_Number.j0, e3]
  conv => lhs; arg 3; rw [show n = -(n.natAbs : Int) by omega]
  exact e
theorem text_eq {n : Int} (h : I64 n) (o : Bool) {k : Nat} (hk : 40 ≤ k) : sat_Text.f n o = some (mk (txt n o)) ∧ r01_Text.f k n o = some (mk (txt n o)) := by
 have hl := itoa_len h
 unfold sat_Text.f r01_Text.f txt
 rw [format_eq h, number_eq h hk]
 cases o
 ·
  exact ⟨rfl, rfl⟩
 ·
  simp only [if_true]
  rw [Option.bind_some, mk_size, if_pos (by omega), show (⟨#[33]⟩ : ByteArray) = mk [33] from rfl, mk_append]
  exact ⟨rfl, rfl⟩
end Go.Proofs.YteckidchnicjeaaGreatDoor.Pure
end
section
namespace Go.Proofs.YteckidchnicjeaaGreatDoor.Pure
open Go.RowKit Go.Proofs.YteckidchnicjeaaGreatDoor.X Go.Proofs.YteckidchnicjeaaGreatDoorW.PrintWords Go.Proofs.YteckidchnicjeaaGreatDoorW.PrintLast Go.Proofs.YteckidchnicjeaaGreatDoorW.PrintMore Go.Proofs.YteckidchnicjeaaGreatDoor.Aid Go.Proofs.YteckidchnicjeaaGreatDoor.Bytes
theorem rrows_l0 {l : List Rw} (h : GRows l) (d : Nat) : ∀ (i k : Nat), i + d = l.length → d + 1100 < k →
 r08_Text.l0 k l ((l.take i).map fun x => mk (rowT x)) (i : Int) = some (mk (Lib.join (l.map rowT) [59])) := by
 have hl := h.1
 induction d with
 | zero =>
  intro i k hi hk
  obtain ⟨k, rfl⟩ := succ_of (show 0 < k by omega)
  have ht := rows_tot h
  have e := rjoin_eq (L := l.map rowT) (s := [59]) (k := k) (by rw [List.length_map]; omega) (by simp) (by omega) (by rw [List.length_map]; omega)
  rw [List.map_map] at e
  simp only [r08_Text.l0]
  rw [if_neg (by omega), List.take_of_length_le (by omega)]
  have e2 : r02_Join.f k (⟨#[59]⟩ : ByteArray) (l.map fun x => mk (rowT x)) = some (mk (Lib.join (l.map rowT) [59])) := e
  rw [e2, Option.bind_some]
 | succ d ih =>
  intro i k hi hk
  obtain ⟨k, rfl⟩ := succ_of (show 0 < k by omega)
  have hlt : i < l.length := by omega
  have hx := h.2 _ (List.getElem_mem hlt)
  have hi0 := itoa_len hx.1
  have hi2 := txt_len hx.2.2 l[i].f2.f1
  have hi1 := hx.2.1
  have hb := bl_len l[i].f1
  have e2 : ((l.take i).map fun x => mk (rowT x)) ++ [mk (rowT l[i])] = (l.take (i + 1)).map fun x => mk (rowT x) := by rw [take_at hlt, List.map_append]; rfl
  have ef : l[i].f1 = mk (bl l[i].f1) := (bl_eta _).symm
  have et : mk (Lib.itoa l[i].f0 ++ [124] ++ bl l[i].f1 ++ [124] ++ txt l[i].f2.f0 l[i].f2.f1) = mk (rowT l[i]) := rfl
  simp only [r08_Text.l0]
  rw [if_pos (by omega), if_pos (by omega), rdR hlt, number_eq hx.1 (by omega), Option.bind_some, mk_size, if_pos (by omega), show (⟨#[124]⟩ : ByteArray) = mk [124] from rfl, mk_append, ef, mk_append, mk_append, mk_size, mk_size, List.length_append, List.length_singleton, if_pos (by omega), mk_size, if_pos (by simp only [List.length_append, List.length_singleton]; omega), (text_eq hx.2.2 l[i].f2.f1 (k := k) (by omega)).2, Option.bind_some, mk_size, mk_size, if_pos (by simp only [List.length_append, List.length_singleton]; omega), if_pos (by rw [List.length_map, List.length_take]; omega), mk_append, et, e2, w64s (by omega)]
  exact ih (i + 1) k (by omega) (by omega)
theorem rrows_eq {l : List Rw} (h : GRows l) {k : Nat} (hk : 2200 ≤ k) : r08_Text.f k l = some (mk (rowsT l)) := by
 have hl := h.1
 unfold r08_Text.f rowsT
 by_cases c : l = []
 ·
  subst c
  rfl
 ·
  have : l.length ≠ 0 := fun e => c (List.eq_nil_of_length_eq_zero e)
  rw [if_neg (by omega), if_neg c]
  exact rrows_l0 h l.length 0 k (by omega) (by omega)
end Go.Proofs.YteckidchnicjeaaGreatDoor.Pure
end
section
namespace Go.Proofs.YteckidchnicjeaaGreatDoor.Pure
open Go.RowKit Go.Proofs.YteckidchnicjeaaGreatDoor.X Go.Proofs.YteckidchnicjeaaGreatDoorW.PrintWords Go.Proofs.YteckidchnicjeaaGreatDoorW.PrintLast Go.Proofs.YteckidchnicjeaaGreatDoorW.PrintMore Go.Proofs.YteckidchnicjeaaGreatDoor.Aid Go.Proofs.YteckidchnicjeaaGreatDoor.Bytes
theorem rans_eq (a : Int) {b : Int} {l : List Rw} (hb : I64 b) (h : GRows l) {k : Nat} (hk : 2200 ≤ k) : r23_Rows.f k a b l = some (mk (ansT b l)) := by
 have h1 := itoa_len hb
 have h2 := rowsT_len h
 unfold r23_Rows.f
 rw [number_eq hb (by omega), Option.bind_some, mk_size, if_pos (by omega), show (⟨#[114, 111, 119, 115, 32]⟩ : ByteArray) = mk [114, 111, 119, 115, 32] from rfl, mk_append, mk_size, if_pos (by simp only [List.length_append, List.length_cons, List.length_nil]; omega), rrows_eq h (by omega), Option.bind_some, show (⟨#[32]⟩ : ByteArray) = mk [32] from rfl, mk_append, mk_size, mk_size, if_pos (by simp only [List.length_append, List.length_cons, List.length_nil]; omega), mk_append]
 rfl
end Go.Proofs.YteckidchnicjeaaGreatDoor.Pure
end
section
namespace Go.Proofs.YteckidchnicjeaaGreatDoor.Pure
open Go.RowKit Go.Proofs.YteckidchnicjeaaGreatDoor.X Go.Proofs.YteckidchnicjeaaGreatDoorW.PrintWords Go.Proofs.YteckidchnicjeaaGreatDoorW.PrintLast Go.Proofs.YteckidchnicjeaaGreatDoorW.PrintMore Go.Proofs.YteckidchnicjeaaGreatDoor.Aid Go.Proofs.YteckidchnicjeaaGreatDoor.Bytes
theorem join2 (n v s : T) : Lib.join [n, v] s = n ++ s ++ v := by simp [Lib.join_cons, Lib.joinTail]
abbrev Ch := S78
theorem rdC {l : List Ch} {i : Nat} (h : i < l.length) : rd_T78 l (i : Int) = l[i] := getD_at h _
def chT (c : Ch) : T := if c.f1 = true then [33] ++ (Lib.itoa c.f0.f0 ++ [124] ++ bl c.f0.f1) else rowT c.f0
def chsT (l : List Ch) : T := if l = [] then [45] else Lib.join (l.map chT) [59]
def GCh (l : List Ch) : Prop := l.length ≤ 1000 ∧ ∀ c ∈ l, GRow c.f0
theorem chT_len {c : Ch} (h : GRow c.f0) : (chT c).length ≤ 1300 := by
 have h1 := rowT_len h
 have h0 := itoa_len h.1
 have h2 := h.2.1
 have h3 := bl_len c.f0.f1
 unfold chT
 split
 ·
  simp only [List.length_append, List.length_singleton]
  omega
 ·
  exact h1
theorem chs_tot {l : List Ch} (h : GCh l) : tot (l.map chT) ≤ 1300000 := by
 have h1 := tot_le 1300 (l.map chT) (fun x hx => by
  obtain ⟨y, hy, rfl⟩ := List.mem_map.mp hx
  exact chT_len (h.2 y hy))
 rw [List.length_map] at h1
 have := h.1
 omega
theorem one_row {x : Rw} (h : GRow x) {k : Nat} (hk : 2200 ≤ k) : row_Text.f k [x] = some (mk (rowT x)) := by
 have g : GRows [x] := ⟨by simp, fun y hy => by rw [List.mem_singleton] at hy; rw [hy]; exact h⟩
 have e : rowsT [x] = rowT x := by
  unfold rowsT
  rw [if_neg (by simp), List.map_cons, List.map_nil, Lib.join_one]
 have a := rows_eq g (k := k) (by omega)
 rw [e] at a
 exact a
theorem num_grp {x : Rw} (h : GRow x) : word_Join.f (⟨#[124]⟩ : ByteArray) [mk (Lib.itoa x.f0), x.f1] = some (mk (Lib.itoa x.f0 ++ [124] ++ bl x.f1)) := by
 have h0 := itoa_len h.1
 have h1 := h.2.1
 have h2 := bl_len x.f1
 have := join_eq (L := [Lib.itoa x.f0, bl x.f1]) (s := [124]) (by simp) (by rw [join2]; simp only [List.length_append, List.length_singleton]; omega)
 rw [join2, List.map_cons, List.map_cons, bl_eta] at this
 exact this
theorem ctext_l0 {l : List Ch} (h : GCh l) (d : Nat) : ∀ (i k : Nat), i + d = l.length → d + 2300 < k →
 diff_Text.l0 k ((l.take i).map fun x => mk (chT x)) l (l.length : Int) (i : Int) = some (mk (Lib.join (l.map chT) [59])) := by
 have hl := h.1
 induction d with
 | zero =>
  intro i k hi hk
  obtain ⟨k, rfl⟩ := succ_of (show 0 < k by omega)
  have hj := join_len [59] (l.map chT)
  have ht := chs_tot h
  rw [List.length_map, List.length_singleton] at hj
  have e := join_eq (L := l.map chT) (s := [59]) (by rw [List.length_map]; omega) (by omega)
  rw [List.map_map] at e
  simp only [diff_Text.l0]
  rw [if_neg (by omega), List.take_of_length_le (by omega)]
  have e2 : word_Join.f (⟨#[59]⟩ : ByteArray) (l.map fun x => mk (chT x)) = some (mk (Lib.join (l.map chT) [59])) := e
  rw [e2, Option.bind_some]
 | succ d ih =>
  intro i k hi hk
  obtain ⟨k, rfl⟩ := succ_of (show 0 < k by omega)
  have hlt : i < l.length := by omega
  have hx := h.2 _ (List.getElem_mem hlt)
  have e2 : ((l.take i).map fun x => mk (chT x)) ++ [mk (chT l[i])] = (l.take (i + 1)).map fun x => mk (chT x) := by rw [take_at hlt, List.map_append]; rfl
  have hlen : ((l.take i).map fun x => mk (chT x)).length < 8796093022208 := by rw [List.length_map, List.length_take]; omega
  have hih := ih (i + 1) k (by omega) (by omega)
  have c1 : (i : Int) < (l.length : Int) := by omega
  have c2 : 0 ≤ (i : Int) := by omega
  simp only [diff_Text.l0]
  rw [if_pos c1, if_pos c2, if_pos c1, rdC hlt]
  by_cases hc : l[i].f1 = true
  ·
   have e : chT l[i] = [33] ++ (Lib.itoa l[i].f0.f0 ++ [124] ++ bl l[i].f0.f1) := by unfold chT; rw [if_pos hc]
   have em : (⟨#[33]⟩ : ByteArray) ++ mk (Lib.itoa l[i].f0.f0 ++ [124] ++ bl l[i].f0.f1) = mk (chT l[i]) := by
    rw [e]
    exact mk_append [33] _
   have hcl := chT_len hx
   rw [e, List.length_append] at hcl
   rw [if_pos hc, format_eq hx.1, Option.bind_some, num_grp hx, Option.bind_some, em, mk_size, if_pos (by omega), if_pos hlen, e2, w64s (by omega), hih]
  ·
   have e : chT l[i] = rowT l[i].f0 := by unfold chT; rw [if_neg hc]
   have e1 := one_row hx (k := k) (by omega)
   have e1' : row_Text.f k [(⟨l[i].f0.f0, l[i].f0.f1, (⟨l[i].f0.f2.f0, l[i].f0.f2.f1⟩ : S58)⟩ : Rw)] = some (mk (chT l[i])) := by rw [e]; exact e1
   rw [if_neg hc, e1', Option.bind_some, if_pos hlen, e2, w64s (by omega), hih]
theorem ctext_eq {l : List Ch} (h : GCh l) {k : Nat} (hk : 3400 ≤ k) : diff_Text.f k l = some (mk (chsT l)) := by
 have hl := h.1
 unfold diff_Text.f chsT
 by_cases c : l = []
 ·
  subst c
  rfl
 ·
  have : l.length ≠ 0 := fun e => c (List.eq_nil_of_length_eq_zero e)
  rw [if_neg (by omega), if_neg c]
  exact ctext_l0 h l.length 0 k (by omega) (by omega)
end Go.Proofs.YteckidchnicjeaaGreatDoor.Pure
end
section
namespace Go.Proofs.YteckidchnicjeaaGreatDoor.Pure
open Go.RowKit Go.Proofs.YteckidchnicjeaaGreatDoor.X Go.Proofs.YteckidchnicjeaaGreatDoorW.PrintWords Go.Proofs.YteckidchnicjeaaGreatDoorW.PrintLast Go.Proofs.YteckidchnicjeaaGreatDoorW.PrintMore Go.Proofs.YteckidchnicjeaaGreatDoor.Aid Go.Proofs.YteckidchnicjeaaGreatDoor.Bytes
theorem rone_row {x : Rw} (h : GRow x) {k : Nat} (hk : 2200 ≤ k) : r08_Text.f k [x] = some (mk (rowT x)) := by
 have g : GRows [x] := ⟨by simp, fun y hy => by rw [List.mem_singleton] at hy; rw [hy]; exact h⟩
 have e : rowsT [x] = rowT x := by
  unfold rowsT
  rw [if_neg (by simp), List.map_cons, List.map_nil, Lib.join_one]
 have b := rrows_eq g (k := k) (by omega)
 rw [e] at b
 exact b
theorem rctext_l0 {l : List Ch} (h : GCh l) (d : Nat) : ∀ (i k : Nat), i + d = l.length → d + 2300 < k →
 r09_Text.l0 k l ((l.take i).map fun x => mk (chT x)) (i : Int) = some (mk (Lib.join (l.map chT) [59])) := by
 have hl := h.1
 induction d with
 | zero =>
  intro i k hi hk
  obtain ⟨k, rfl⟩ := succ_of (show 0 < k by omega)
  have ht := chs_tot h
  have e := rjoin_eq (L := l.map chT) (s := [59]) (k := k) (by rw [List.length_map]; omega) (by simp) (by omega) (by rw [List.length_map]; omega)
  rw [List.map_map] at e
  simp only [r09_Text.l0]
  rw [if_neg (by omega), List.take_of_length_le (by omega)]
  have e2 : r02_Join.f k (⟨#[59]⟩ : ByteArray) (l.map fun x => mk (chT x)) = some (mk (Lib.join (l.map chT) [59])) := e
  rw [e2, Option.bind_some]
 | succ d ih =>
  intro i k hi hk
  obtain ⟨k, rfl⟩ := succ_of (show 0 < k by omega)
  have hlt : i < l.length := by omega
  have hx := h.2 _ (List.getElem_mem hlt)
  have e2 : ((l.take i).map fun x => mk (chT x)) ++ [mk (chT l[i])] = (l.take (i + 1)).map fun x => mk (chT x) := by rw [take_at hlt, List.map_append]; rfl
  have hlen : ((l.take i).map fun x => mk (chT x)).length < 8796093022208 := by rw [List.length_map, List.length_take]; omega
  have hih := ih (i + 1) k (by omega) (by omega)
  have c1 : (i : Int) < (l.length : Int) := by omega
  have c2 : 0 ≤ (i : Int) := by omega
  have e1 := rone_row hx (k := k) (by omega)
  have e1' : r08_Text.f k [(⟨l[i].f0.f0, l[i].f0.f1, (⟨l[i].f0.f2.f0, l[i].f0.f2.f1⟩ : S58)⟩ : Rw)] = some (mk (rowT l[i].f0)) := e1
  simp only [r09_Text.l0]
  rw [if_pos c1, if_pos c2, rdC hlt, e1', Option.bind_some]
  by_cases hc : l[i].f1 = true
  ·
   have e : chT l[i] = [33] ++ (Lib.itoa l[i].f0.f0 ++ [124] ++ bl l[i].f0.f1) := by unfold chT; rw [if_pos hc]
   have h0 := itoa_len hx.1
   have h1 := hx.2.1
   have h2 := bl_len l[i].f0.f1
   have em : mk (([33] ++ Lib.itoa l[i].f0.f0) ++ [124]) ++ l[i].f0.f1 = mk (chT l[i]) := by
    have := mk_append (([33] ++ Lib.itoa l[i].f0.f0) ++ [124]) (bl l[i].f0.f1)
    rw [bl_eta] at this
    rw [this, e]
    simp only [List.append_assoc]
   rw [if_pos hc, number_eq hx.1 (by omega), Option.bind_some, mk_size, if_pos (by omega), show (⟨#[33]⟩ : ByteArray) = mk [33] from rfl, mk_append, mk_size, if_pos (by simp only [List.length_append, List.length_singleton]; omega), show (⟨#[124]⟩ : ByteArray) = mk [124] from rfl, mk_append, mk_size, if_pos (by simp only [List.length_append, List.length_singleton]; omega), if_pos hlen, em, e2, w64s (by omega), hih]
  ·
   have e : chT l[i] = rowT l[i].f0 := by unfold chT; rw [if_neg hc]
   rw [if_neg hc, if_pos hlen, ← e, e2, w64s (by omega), hih]
theorem rctext_eq {l : List Ch} (h : GCh l) {k : Nat} (hk : 3400 ≤ k) : r09_Text.f k l = some (mk (chsT l)) := by
 have hl := h.1
 unfold r09_Text.f chsT
 by_cases c : l = []
 ·
  subst c
  rfl
 ·
  have : l.length ≠ 0 := fun e => c (List.eq_nil_of_length_eq_zero e)
  rw [if_neg (by omega), if_neg c]
  exact rctext_l0 h l.length 0 k (by omega) (by omega)
end Go.Proofs.YteckidchnicjeaaGreatDoor.Pure
end
section
namespace Go.Proofs.YteckidchnicjeaaGreatDoor.Pure
open Go.RowKit Go.Proofs.YteckidchnicjeaaGreatDoor.X Go.Proofs.YteckidchnicjeaaGreatDoorW.PrintWords Go.Proofs.YteckidchnicjeaaGreatDoorW.PrintLast Go.Proofs.YteckidchnicjeaaGreatDoorW.PrintMore Go.Proofs.YteckidchnicjeaaGreatDoor.Aid Go.Proofs.YteckidchnicjeaaGreatDoor.Bytes
theorem rgreat_l0 {l : List Rw} (hl : l.length ≤ 100000) (d : Nat) : ∀ (i k : Nat), i + d = l.length → d < k → ∃ r, r08_Great.l0 k l (i : Int) = some r ∧ (r = false → ∀ x ∈ l.drop i, x.f1.size ≤ 300) := by
 induction d with
 | zero =>
  intro i k hi hk
  obtain ⟨k, rfl⟩ := succ_of hk
  simp only [r08_Great.l0]
  rw [if_neg (by omega), List.drop_of_length_le (by omega)]
  exact ⟨_, rfl, fun _ x hx => absurd hx (by simp)⟩
 | succ d ih =>
  intro i k hi hk
  obtain ⟨k, rfl⟩ := succ_of hk
  have hlt : i < l.length := by omega
  simp only [r08_Great.l0]
  rw [if_pos (by omega), if_pos (by omega), w64s (by omega), rdR hlt]
  obtain ⟨r, hr, h2⟩ := ih (i + 1) k (by omega) (by omega)
  rw [hr]
  by_cases h : (l[i].f1.size : Int) > 300
  ·
   rw [if_pos h]
   exact ⟨_, rfl, fun e => by cases e⟩
  ·
   rw [if_neg h]
   refine ⟨r, rfl, fun e x hx => ?_⟩
   rw [drop_at hlt, List.mem_cons] at hx
   rcases hx with rfl | hx
   ·
    omega
   ·
    exact h2 e x hx
def Fine (l : List Rw) : Prop := l.length ≤ 100 ∧ ∀ x ∈ l, GRow x ∧ x.f1.size ≤ 300
theorem rgreat_eq (l : List Rw) (hq : ∀ x ∈ l, Q60 x) {k : Nat} (hk : 110 ≤ k) : r08_Great.f k l = some true ∨ (r08_Great.f k l = some false ∧ Fine l) := by
 unfold r08_Great.f
 by_cases h : (l.length : Int) > 100
 ·
  rw [if_pos h]
  exact .inl rfl
 ·
  rw [if_neg h]
  obtain ⟨r, h1, h2⟩ := rgreat_l0 (l := l) (by omega) l.length 0 k (by omega) (by omega)
  cases r
  ·
   refine .inr ⟨h1, by omega, fun x hx => ?_⟩
   have h3 := h2 rfl x hx
   have h4 := hq x hx
   exact ⟨⟨wf64 h4.1, by omega, wf64 h4.2.2.1⟩, h3⟩
  ·
   exact .inl h1
theorem cgreat_l0 {l : List Ch} (hl : l.length ≤ 100000) (d : Nat) : ∀ (i k : Nat), i + d = l.length → d < k → ∃ r, r09_Great.l0 k l (i : Int) = some r ∧ (r = false → ∀ x ∈ l.drop i, x.f0.f1.size ≤ 300) := by
 induction d with
 | zero =>
  intro i k hi hk
  obtain ⟨k, rfl⟩ := succ_of hk
  simp only [r09_Great.l0]
  rw [if_neg (by omega), List.drop_of_length_le (by omega)]
  exact ⟨_, rfl, fun _ x hx => absurd hx (by simp)⟩
 | succ d ih =>
  intro i k hi hk
  obtain ⟨k, rfl⟩ := succ_of hk
  have hlt : i < l.length := by omega
  simp only [r09_Great.l0]
  rw [if_pos (by omega), if_pos (by omega), w64s (by omega), rdC hlt]
  obtain ⟨r, hr, h2⟩ := ih (i + 1) k (by omega) (by omega)
  rw [hr]
  by_cases h : (l[i].f0.f1.size : Int) > 300
  ·
   rw [if_pos h]
   exact ⟨_, rfl, fun e => by cases e⟩
  ·
   rw [if_neg h]
   refine ⟨r, rfl, fun e x hx => ?_⟩
   rw [drop_at hlt, List.mem_cons] at hx
   rcases hx with rfl | hx
   ·
    omega
   ·
    exact h2 e x hx
def FineC (l : List Ch) : Prop := l.length ≤ 100 ∧ ∀ x ∈ l, GRow x.f0 ∧ x.f0.f1.size ≤ 300
theorem cgreat_eq (l : List Ch) (hq : ∀ x ∈ l, Q78 x) {k : Nat} (hk : 110 ≤ k) : r09_Great.f k l = some true ∨ (r09_Great.f k l = some false ∧ FineC l) := by
 unfold r09_Great.f
 by_cases h : (l.length : Int) > 100
 ·
  rw [if_pos h]
  exact .inl rfl
 ·
  rw [if_neg h]
  obtain ⟨r, h1, h2⟩ := cgreat_l0 (l := l) (by omega) l.length 0 k (by omega) (by omega)
  cases r
  ·
   refine .inr ⟨h1, by omega, fun x hx => ?_⟩
   have h3 := h2 rfl x hx
   have h4 := (hq x hx).1
   exact ⟨⟨wf64 h4.1, by omega, wf64 h4.2.2.1⟩, h3⟩
  ·
   exact .inl h1
abbrev Ms := S36
theorem much_eq (m : Ms) (h3 : ∀ x ∈ m.f3, Q60 x) (h4 : ∀ x ∈ m.f4, Q78 x) {k : Nat} (hk : 120 ≤ k) : r19_Much.f k [m] = some true ∨ (r19_Much.f k [m] = some false ∧ Fine m.f3 ∧ FineC m.f4) := by
 obtain ⟨k, rfl⟩ : ∃ n, k = n + 2 := ⟨k - 2, by omega⟩
 unfold r19_Much.f
 rw [if_neg (by simp)]
 simp only [r19_Much.l0]
 have e0 : rd_T36 [m] 0 = m := rfl
 rw [if_pos (by simp), if_pos (by omega), e0]
 rcases rgreat_eq m.f3 h3 (k := k + 1) (by omega) with h | ⟨h, f3⟩
 ·
  rw [h]
  simp only [Option.bind_some]
  exact .inl (if_pos trivial)
 ·
  rw [h]
  simp only [Option.bind_some]
  rw [if_neg (by simp)]
  rcases cgreat_eq m.f4 h4 (k := k + 1) (by omega) with h2 | ⟨h2, f4⟩
  ·
   rw [h2]
   simp only [Option.bind_some]
   exact .inl (if_pos trivial)
  ·
   rw [h2]
   simp only [Option.bind_some]
   rw [if_neg (by simp), if_neg (by rw [w64 (a := 0 + 1) (by omega) (by omega)]; simp)]
   exact .inr ⟨rfl, f3, f4⟩
end Go.Proofs.YteckidchnicjeaaGreatDoor.Pure
end
section
namespace Go.Proofs.YteckidchnicjeaaGreatDoor.Pure
open Go.RowKit Go.Proofs.YteckidchnicjeaaGreatDoor.X Go.Proofs.YteckidchnicjeaaGreatDoorW.PrintWords Go.Proofs.YteckidchnicjeaaGreatDoorW.PrintLast Go.Proofs.YteckidchnicjeaaGreatDoorW.PrintMore Go.Proofs.YteckidchnicjeaaGreatDoor.Aid Go.Proofs.YteckidchnicjeaaGreatDoor.Bytes
set_option linter.unusedVariables false
theorem alive_eq (k : Nat) (hk : 200 ≤ k) : w23_alive.f k = some true :=
 at_rounds (g := fun k => w23_alive.f k) w23_alive.mono hk (by decide +kernel)
theorem chsT_len {l : List Ch} (h : GCh l) : (chsT l).length ≤ 2000000 := by
 unfold chsT
 split
 ·
  decide
 ·
  have hj := join_len [59] (l.map chT)
  have h1 := chs_tot h
  have := h.1
  rw [List.length_map, List.length_singleton] at hj
  omega
def kindT (a : Int) : T := if a = 1 then [105, 109, 97, 103, 101] else if a = 2 then [100, 105, 102, 102] else [114, 101, 115, 121, 110, 99]
def msgT (m : Ms) : T := if m.f0 < 1 ∨ m.f0 > 3 then [] else kindT m.f0 ++ [32] ++ (Lib.itoa m.f1 ++ [32] ++ (Lib.itoa m.f2 ++ [32] ++ (if m.f0 = 2 then chsT m.f4 else rowsT m.f3)))
theorem join4 (a b c d : T) : Lib.join [a, b, c, d] [32] = a ++ [32] ++ (b ++ [32] ++ (c ++ [32] ++ d)) := by
 rw [Lib.join_cons, tail_cons, tail_cons, tail_cons]
 simp [Lib.joinTail]
theorem kindT_len (a : Int) : (kindT a).length ≤ 6 := by
 unfold kindT
 split
 ·
  decide
 ·
  split <;> decide
theorem kinds_at {a : Int} (h : 1 ≤ a ∧ a ≤ 3) : ∃ ks, reply_kinds.f = some ks ∧ ks.length = 3 ∧ rdOf ByteArray.empty ks (a - 1) = mk (kindT a) := by
 refine ⟨_, rfl, rfl, ?_⟩
 have h3 : a = 1 ∨ a = 2 ∨ a = 3 := by omega
 rcases h3 with rfl | rfl | rfl <;> rfl
theorem j1_eq {m : Ms} (h : 1 ≤ m.f0 ∧ m.f0 ≤ 3) (h1 : I64 m.f1) (h2 : I64 m.f2) {x : T} (hx : x.length ≤ 2000000) {k : Nat} (hk : 0 < k) : reply_Message.j1 k (mk x) m.f0 m.f1 m.f2 m.f3 m.f4 = some (mk (kindT m.f0 ++ [32] ++ (Lib.itoa m.f1 ++ [32] ++ (Lib.itoa m.f2 ++ [32] ++ x)))) := by
 obtain ⟨k, rfl⟩ := succ_of hk
 obtain ⟨ks, hks, hl, hr⟩ := kinds_at h
 have l1 := itoa_len h1
 have l2 := itoa_len h2
 have l0 := kindT_len m.f0
 simp only [reply_Message.j1]
 rw [hks]
 simp only [Option.bind_some]
 rw [w64 (by omega) (by omega), if_pos (by omega), if_pos (by omega), format_eq h1, format_eq h2]
 simp only [Option.bind_some]
 rw [hr]
 have e : ([mk (kindT m.f0), mk (Lib.itoa m.f1), mk (Lib.itoa m.f2), mk x] : List ByteArray) = ([kindT m.f0, Lib.itoa m.f1, Lib.itoa m.f2, x] : List T).map mk := rfl
 rw [e]
 unfold reply_say.f
 rw [show (⟨#[32]⟩ : ByteArray) = mk [32] from rfl, join_eq (by simp) (by rw [join4]; simp only [List.length_append, List.length_singleton]; omega), join4]
 rfl
theorem msg_eq {m : Ms} (h1 : I64 m.f1) (h2 : I64 m.f2) (h3 : GRows m.f3) (h4 : GCh m.f4) {k : Nat} (hk : 5000 ≤ k) : reply_Message.f k m.f0 m.f1 m.f2 m.f3 m.f4 = some (mk (msgT m)) := by
 obtain ⟨k, rfl⟩ : ∃ n, k = n + 1 := ⟨k - 1, by omega⟩
 unfold reply_Message.f msgT
 by_cases c : m.f0 < 1
 ·
  rw [if_pos c, if_pos (.inl c)]
  simp only [reply_Message.j0]
  rfl
 ·
  rw [if_neg c]
  by_cases c2 : m.f0 > 3
  ·
   rw [decide_eq_true c2, if_pos (.inr c2)]
   simp only [reply_Message.j0]
   rfl
  ·
   rw [decide_eq_false c2, if_neg (by omega)]
   simp only [reply_Message.j0]
   rw [if_neg (by simp), rows_eq h3 (by omega)]
   simp only [Option.bind_some]
   by_cases c3 : m.f0 = 2
   ·
    rw [if_pos c3, if_pos c3, ctext_eq h4 (by omega)]
    simp only [Option.bind_some]
    exact j1_eq (by omega) h1 h2 (chsT_len h4) (by omega)
   ·
    rw [if_neg c3, if_neg c3]
    exact j1_eq (by omega) h1 h2 (Nat.le_trans (rowsT_len h3) (by omega)) (by omega)
theorem rmsg_eq {m : Ms} (h1 : I64 m.f1) (h2 : I64 m.f2) (h3 : GRows m.f3) (h4 : GCh m.f4) {k : Nat} (hk : 5000 ≤ k) : r23_Message.f k m.f0 m.f1 m.f2 m.f3 m.f4 = some (mk (msgT m)) := by
 have l1 := itoa_len h1
 have l2 := itoa_len h2
 have l3 := rowsT_len h3
 have l4 := chsT_len h4
 have e32 : (⟨#[32]⟩ : ByteArray) = mk [32] := rfl
 unfold r23_Message.f msgT
 rw [number_eq h1 (by omega), number_eq h2 (by omega), e32]
 simp only [Option.bind_some, mk_append, mk_size, List.length_append, List.length_singleton]
 rw [if_pos (by omega), if_pos (by omega), if_pos (by omega)]
 by_cases c1 : m.f0 = 1
 ·
  rw [if_pos c1, if_pos (by omega), rrows_eq h3 (by omega), show (⟨#[105, 109, 97, 103, 101, 32]⟩ : ByteArray) = mk [105, 109, 97, 103, 101, 32] from rfl]
  simp only [Option.bind_some, mk_append, mk_size, List.length_append, List.length_cons, List.length_nil]
  rw [if_pos (by omega), if_neg (by omega), if_neg (by omega)]
  unfold kindT
  rw [if_pos c1]
  simp
 ·
  rw [if_neg c1]
  by_cases c2 : m.f0 = 2
  ·
   rw [if_pos c2, if_pos (by omega), rctext_eq h4 (by omega), show (⟨#[100, 105, 102, 102, 32]⟩ : ByteArray) = mk [100, 105, 102, 102, 32] from rfl]
   simp only [Option.bind_some, mk_append, mk_size, List.length_append, List.length_cons, List.length_nil]
   rw [if_pos (by omega), if_neg (by omega), if_pos c2]
   unfold kindT
   rw [if_neg c1, if_pos c2]
   simp
  ·
   rw [if_neg c2]
   by_cases c3 : m.f0 = 3
   ·
    rw [if_pos c3, if_pos (by omega), rrows_eq h3 (by omega), show (⟨#[114, 101, 115, 121, 110, 99, 32]⟩ : ByteArray) = mk [114, 101, 115, 121, 110, 99, 32] from rfl]
    simp only [Option.bind_some, mk_append, mk_size, List.length_append, List.length_cons, List.length_nil]
    rw [if_pos (by omega), if_neg (by omega), if_neg c2]
    unfold kindT
    rw [if_neg c1, if_neg c2]
    simp
   ·
    rw [if_neg c3, if_pos (by omega)]
    rfl
theorem fine_g {l : List Rw} (h : Fine l) : GRows l := ⟨by have := h.1; omega, fun x hx => (h.2 x hx).1⟩
theorem fine_c {l : List Ch} (h : FineC l) : GCh l := ⟨by have := h.1; omega, fun x hx => (h.2 x hx).1⟩
theorem ReplyWrites : w23_ReplyWrites.Pure := by
 intro a m ha hm
 obtain ⟨K, hK⟩ : ∃ K : Nat, K = 10000 := ⟨_, rfl⟩
 refine ⟨K, ?_⟩
 unfold w23_ReplyWrites.f
 rw [alive_eq K (by omega)]
 simp only [Option.bind_some, if_true]
 have j0t : ∀ (x1 x2 : Int) (l : List Rw) (y0 y1 y2 : Int) (l3 : List Rw) (l4 : List Ch), w23_ReplyWrites.j0 K true x1 x2 l y0 y1 y2 l3 l4 = some true := by
  intro x1 x2 l y0 y1 y2 l3 l4
  obtain ⟨K2, rfl⟩ := succ_of (show 0 < K by omega)
  simp only [w23_ReplyWrites.j0]
  rfl
 have hR : ∀ x ∈ a.f2, Q60 x := ha.2.2.2
 rcases rgreat_eq a.f2 hR (k := K) (by omega) with h | ⟨h, fa⟩
 ·
  rw [h]
  simp only [Option.bind_some, if_true]
  exact j0t _ _ _ _ _ _ _ _
 ·
  rw [h]
  simp only [Option.bind_some]
  rw [if_neg (by simp)]
  have hm3 : ∀ x ∈ m.f3, Q60 x := hm.2.2.2.1.2
  have hm4 : ∀ x ∈ m.f4, Q78 x := hm.2.2.2.2.2
  have e : (⟨m.f0, m.f1, m.f2, m.f3, m.f4⟩ : Ms) = m := rfl
  rw [e]
  rcases much_eq m hm3 hm4 (k := K) (by omega) with h2 | ⟨h2, f3, f4⟩
  ·
   rw [h2]
   simp only [Option.bind_some]
   exact j0t _ _ _ _ _ _ _ _
  ·
   rw [h2]
   simp only [Option.bind_some]
   obtain ⟨K2, rfl⟩ := succ_of (show 0 < K by omega)
   have i1 : I64 m.f1 := wf64 hm.2.1
   have i2 : I64 m.f2 := wf64 hm.2.2.1
   have i0 : I64 a.f1 := wf64 ha.2.1
   simp only [w23_ReplyWrites.j0]
   rw [if_neg (by simp), ans_eq _ i0 (fine_g fa) (by omega), rans_eq _ i0 (fine_g fa) (by omega)]
   simp only [Option.bind_some, if_true]
   rw [msg_eq i1 i2 (fine_g f3) (fine_c f4) (by omega), rmsg_eq i1 i2 (fine_g f3) (fine_c f4) (by omega)]
   simp only [Option.bind_some, beq_self_eq_true]
end Go.Proofs.YteckidchnicjeaaGreatDoor.Pure
end
