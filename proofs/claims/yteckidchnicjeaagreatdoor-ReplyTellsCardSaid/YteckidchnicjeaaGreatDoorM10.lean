/- Plain facts on what the printed functions compute, joined; each says its conditions. -/
import Derived.Test.YteckidchnicjeaaGreatDoorM1
import Derived.Test.YteckidchnicjeaaGreatDoorM4
import Derived.Lib.ItoaNum
import Derived.Test.YteckidchnicjeaaGreatDoorM9
section
namespace Go.Proofs.YteckidchnicjeaaGreatDoor.Pure
open Go.RowKit Go.Proofs.YteckidchnicjeaaGreatDoor.X Go.Proofs.YteckidchnicjeaaGreatDoorW.PrintWords Go.Proofs.YteckidchnicjeaaGreatDoorW.PrintLast Go.Proofs.YteckidchnicjeaaGreatDoorW.PrintMore Go.Proofs.YteckidchnicjeaaGreatDoor.Aid Go.Proofs.YteckidchnicjeaaGreatDoor.Bytes
set_option linter.unusedVariables false
abbrev T := List UInt8
def bl (s : ByteArray) : T := s.data.toList
theorem join_eq {L : List T} {s : T} (hn : L.length ≤ 100000) (hj : (Lib.join L s).length ≤ 100000000) : word_Join.f (mk s) (L.map mk) = some (mk (Lib.join L s)) := by
 unfold word_Join.f strings_Join.f
 rw [List.length_map, map_mk, mk_data, if_pos ⟨by omega, by omega⟩]
 rfl
theorem tail_cons (s x : T) (L : List T) : Lib.joinTail s (x :: L) = s ++ x ++ Lib.joinTail s L := by simp [Lib.joinTail]
end Go.Proofs.YteckidchnicjeaaGreatDoor.Pure
end
section
namespace Go.Proofs.YteckidchnicjeaaGreatDoor.Pure
open Go.RowKit Go.Proofs.YteckidchnicjeaaGreatDoor.X Go.Proofs.YteckidchnicjeaaGreatDoorW.PrintWords Go.Proofs.YteckidchnicjeaaGreatDoorW.PrintLast Go.Proofs.YteckidchnicjeaaGreatDoorW.PrintMore Go.Proofs.YteckidchnicjeaaGreatDoor.Aid Go.Proofs.YteckidchnicjeaaGreatDoor.Bytes
set_option linter.unusedVariables false
def I64 (a : Int) : Prop := -9223372036854775808 ≤ a ∧ a ≤ 9223372036854775807
theorem d_small {u : Nat} (h : u < 10) : Lib.decDigits u = [UInt8.ofNat (48 + u)] := by rw [Lib.decDigits, dif_pos h]
theorem d_big {u : Nat} (h : ¬ u < 10) : Lib.decDigits u = Lib.decDigits (u / 10) ++ [UInt8.ofNat (48 + u % 10)] := by rw [Lib.decDigits, dif_neg h]
theorem ofNat_dig {d : Nat} (h : d < 10) : (UInt8.ofNat (48 + d)).toNat = 48 + d := by
 rw [UInt8.toNat_ofNat']
 omega
theorem format_eq {n : Int} (h : I64 n) : sat_Number.f n = some (mk (Lib.itoa n)) := by
 unfold sat_Number.f strconv_FormatInt.f
 rw [if_pos ⟨rfl, h.1, h.2⟩, Option.bind_some]
 rfl
def sgn (n : Int) : T := if n < 0 then [45] else []
theorem itoa_sgn (n : Int) : Lib.itoa n = sgn n ++ Lib.decDigits n.natAbs := by
 unfold Lib.itoa sgn
 by_cases h : n < 0
 ·
  rw [if_pos h, if_pos h]; rfl
 ·
  rw [if_neg h, if_neg h, show n.toNat = n.natAbs by omega]; rfl
theorem itoa_len {n : Int} (h : I64 n) : (Lib.itoa n).length ≤ 100 := by
 unfold I64 at h
 have h20 : n.natAbs < 10 ^ (20 + 1) := by
  have : (10 : Nat) ^ 21 = 1000000000000000000000 := by decide
  omega
 have g : ∀ (d u : Nat), u < 10 ^ (d + 1) → (Lib.decDigits u).length ≤ d + 1 := by
  intro d
  induction d with
  | zero => intro u hu; rw [d_small (by simpa using hu)]; simp
  | succ d ih =>
   intro u hu
   by_cases h : u < 10
   ·
    rw [d_small h]; simp
   ·
    rw [d_big h, List.length_append, List.length_singleton]
    have := ih (u / 10) (by rw [Nat.pow_succ] at hu; omega)
    omega
 have := g 20 _ h20
 rw [itoa_sgn, List.length_append]
 unfold sgn
 split <;> simp <;> omega
end Go.Proofs.YteckidchnicjeaaGreatDoor.Pure
end
section
namespace Go.Proofs.YteckidchnicjeaaGreatDoor.Pure
open Go.RowKit Go.Proofs.YteckidchnicjeaaGreatDoor.X Go.Proofs.YteckidchnicjeaaGreatDoorW.PrintWords Go.Proofs.YteckidchnicjeaaGreatDoorW.PrintLast Go.Proofs.YteckidchnicjeaaGreatDoorW.PrintMore Go.Proofs.YteckidchnicjeaaGreatDoor.Aid Go.Proofs.YteckidchnicjeaaGreatDoor.Bytes
set_option linter.unusedVariables false
theorem one_dig {u : Nat} : strOfNums [((48 + u % 10 : Nat) : Int)] = mk [UInt8.ofNat (48 + u % 10)] := by
 have e := ofNat_dig (show u % 10 < 10 by omega)
 rw [← one_mk, e]
theorem tmod_neg (u : Nat) : Int.tmod (-(u : Int)) 10 = -((u % 10 : Nat) : Int) := by
 rw [Int.neg_tmod]
 rfl
theorem tdiv_neg (u : Nat) : Int.tdiv (-(u : Int)) 10 = -((u / 10 : Nat) : Int) := by
 rw [Int.neg_tdiv]
 rfl
theorem num_l0 (n : Int) (d : Nat) : ∀ (u k : Nat) (acc : T), u < 10 ^ (d + 1) → (u : Int) ≤ 9223372036854775808 → acc.length + d ≤ 1000 → d < k →
 r01_Number.l0 k n (-(u : Int)) (mk acc) = some (mk (sgn n ++ (Lib.decDigits u ++ acc))) := by
 induction d with
 | zero =>
  intro u k acc hu hm ha hk
  obtain ⟨k, rfl⟩ := succ_of hk
  rw [r01_Number.l0, tmod_neg, tdiv_neg]
  have hu' : u < 10 := by simpa using hu
  have e1 : (wrap64 (48 + (wrap64 (-(-((u % 10 : Nat) : Int)))))) % 256 = ((48 + u % 10 : Nat) : Int) := by
   rw [w64 (a := -(-((u % 10 : Nat) : Int))) (by omega) (by omega), w64 (by omega) (by omega)]
   omega
  have e2 : wrap64 (-((u / 10 : Nat) : Int)) = 0 := by rw [w64 (by omega) (by omega)]; omega
  rw [e1, e2, Option.bind_some, one_dig, mk_append, mk_size, mk_size, if_pos (by simp only [List.length_singleton]; omega), if_pos rfl, d_small hu', show u % 10 = u by omega]
  unfold sgn
  by_cases hn : n < 0
  ·
   rw [if_pos hn, if_pos hn, mk_size, if_pos (by simp only [List.length_append, List.length_singleton]; omega), show (⟨#[45]⟩ : ByteArray) = mk [45] from rfl, mk_append]
  ·
   rw [if_neg hn, if_neg hn]
   rfl
 | succ d ih =>
  intro u k acc hu hm ha hk
  by_cases hu' : u < 10
  ·
   obtain ⟨k, rfl⟩ := succ_of hk
   rw [r01_Number.l0, tmod_neg, tdiv_neg]
   have e1 : (wrap64 (48 + (wrap64 (-(-((u % 10 : Nat) : Int)))))) % 256 = ((48 + u % 10 : Nat) : Int) := by
    rw [w64 (a := -(-((u % 10 : Nat) : Int))) (by omega) (by omega), w64 (by omega) (by omega)]
    omega
   have e2 : wrap64 (-((u / 10 : Nat) : Int)) = 0 := by rw [w64 (by omega) (by omega)]; omega
   rw [e1, e2, Option.bind_some, one_dig, mk_append, mk_size, mk_size, if_pos (by simp only [List.length_singleton]; omega), if_pos rfl, d_small hu', show u % 10 = u by omega]
   unfold sgn
   by_cases hn : n < 0
   ·
    rw [if_pos hn, if_pos hn, mk_size, if_pos (by simp only [List.length_append, List.length_singleton]; omega), show (⟨#[45]⟩ : ByteArray) = mk [45] from rfl, mk_append]
   ·
    rw [if_neg hn, if_neg hn]
    rfl
  ·
   obtain ⟨k, rfl⟩ := succ_of hk
   rw [r01_Number.l0, tmod_neg, tdiv_neg]
   have e1 : (wrap64 (48 + (wrap64 (-(-((u % 10 : Nat) : Int)))))) % 256 = ((48 + u % 10 : Nat) : Int) := by
    rw [w64 (a := -(-((u % 10 : Nat) : Int))) (by omega) (by omega), w64 (by omega) (by omega)]
    omega
   have e2 : wrap64 (-((u / 10 : Nat) : Int)) = -((u / 10 : Nat) : Int) := w64 (by omega) (by omega)
   rw [e1, e2, Option.bind_some, one_dig, mk_append, mk_size, mk_size, if_pos (by simp only [List.length_singleton]; omega), if_neg (by omega), d_big hu']
   rw [ih (u / 10) k _ (by rw [Nat.pow_succ] at hu; omega) (by omega) (by simp only [List.length_append, List.length_singleton]; omega) (by omega), List.append_assoc]
theorem number_eq {n : Int} (h : I64 n) {k : Nat} (hk : 40 ≤ k) : r01_Number.f k n = some (mk (Lib.itoa n)) := by
 unfold I64 at h
 obtain ⟨k, rfl⟩ := succ_of (show 0 < k by omega)
 have h20 : n.natAbs < 10 ^ (20 + 1) := by
  have : (10 : Nat) ^ 21 = 1000000000000000000000 := by decide
  omega
 have e := num_l0 n 20 n.natAbs k [] h20 (by omega) (by simp) (by omega)
 rw [List.append_nil, ← itoa_sgn] at e
 have e3 : (⟨#[]⟩ : ByteArray) = mk [] := rfl
 unfold r01_Number.f
 by_cases hn : n > 0
 ·
  rw [if_pos hn, r01_Number.j0, w64 (by omega) (by omega), e3, show -n = -(n.natAbs : Int) by omega]
  exact e
 ·
  rw [if_neg hn, r01_Number.j0, e3]
  conv => lhs; arg 3; rw [show n = -(n.natAbs : Int) by omega]
  exact e
end Go.Proofs.YteckidchnicjeaaGreatDoor.Pure
end
section
namespace Go.Proofs.YteckidchnicjeaaGreatDoor.Pure
open Go.RowKit Go.Proofs.YteckidchnicjeaaGreatDoor.X Go.Proofs.YteckidchnicjeaaGreatDoorW.PrintWords Go.Proofs.YteckidchnicjeaaGreatDoorW.PrintLast Go.Proofs.YteckidchnicjeaaGreatDoorW.PrintMore Go.Proofs.YteckidchnicjeaaGreatDoor.Aid Go.Proofs.YteckidchnicjeaaGreatDoor.Bytes
set_option linter.unusedVariables false
theorem alive_eq (k : Nat) (hk : 200 ≤ k) : w23_alive.f k = some true :=
 at_rounds (g := fun k => w23_alive.f k) w23_alive.mono hk (by decide +kernel)
theorem say_eq {L : List T} (hn : L.length ≤ 100000) (hj : (Lib.join L [32]).length ≤ 100000000) : reply_say.f (L.map mk) = some (mk (Lib.join L [32])) := by
 unfold reply_say.f
 rw [show (⟨#[32]⟩ : ByteArray) = mk [32] from rfl, join_eq hn hj]
 rfl
theorem err_few : ∀ n : Fin 11, reply_Error.f (n.val : Int) = r23_Error.f (n.val : Int) ∧ (reply_Error.f (n.val : Int)).isSome = true := by decide +kernel
theorem told_out {a : Int} (h : a < 1 ∨ a > 10) : reply_told.f a = some (mk [101, 114, 114, 111, 114]) := by
 obtain ⟨F, hF, hl⟩ : ∃ F, strings_Fields.f (⟨#[97, 114, 103, 32, 102, 111, 114, 109, 32, 114, 97, 110, 103, 101, 32, 109, 97, 110, 121, 32, 116, 119, 105, 99, 101, 32, 110, 111, 110, 101, 32, 108, 97, 116, 101, 32, 102, 117, 108, 108, 32, 111, 114, 100, 101, 114, 32, 108, 111, 110, 103]⟩ : ByteArray) = some F ∧ F.length = 10 := by
  refine ⟨(strings_Fields.f (⟨#[97, 114, 103, 32, 102, 111, 114, 109, 32, 114, 97, 110, 103, 101, 32, 109, 97, 110, 121, 32, 116, 119, 105, 99, 101, 32, 110, 111, 110, 101, 32, 108, 97, 116, 101, 32, 102, 117, 108, 108, 32, 111, 114, 100, 101, 114, 32, 108, 111, 110, 103]⟩ : ByteArray)).getD [], by decide +kernel, by decide +kernel⟩
 unfold reply_told.f
 rw [hF]
 simp only [Option.bind_some]
 by_cases c : a < 1
 ·
  rw [if_pos c]
  rfl
 ·
  rw [if_neg c, if_pos (by omega)]
  rfl
theorem err_both (a : Int) : ∃ s, reply_Error.f a = some s ∧ r23_Error.f a = some s := by
 by_cases h : 0 ≤ a ∧ a ≤ 10
 ·
  have g := err_few ⟨a.toNat, by omega⟩
  simp only [Int.toNat_of_nonneg h.1] at g
  obtain ⟨s, hs⟩ := Option.isSome_iff_exists.1 g.2
  exact ⟨s, hs, g.1 ▸ hs⟩
 ·
  refine ⟨mk [101, 114, 114, 32, 101, 114, 114, 111, 114], ?_, ?_⟩
  ·
   unfold reply_Error.f
   rw [if_neg (by omega), told_out (by omega)]
   simp only [Option.bind_some]
   have e : ([(⟨#[101, 114, 114]⟩ : ByteArray), mk [101, 114, 114, 111, 114]] : List ByteArray) = ([[101, 114, 114], [101, 114, 114, 111, 114]] : List T).map mk := rfl
   rw [e, say_eq (by decide) (by decide)]
   rfl
  ·
   unfold r23_Error.f
   simp only [Option.bind_some]
   by_cases c : a < 0
   ·
    rw [if_pos c]
    rfl
   ·
    rw [if_neg c, if_pos (by simp only [List.length_cons, List.length_nil]; omega)]
    rfl
theorem join2 (x y : T) : Lib.join [x, y] [32] = x ++ [32] ++ y := by
 rw [Lib.join_cons, tail_cons]
 simp [Lib.joinTail]
theorem stored_eq {n : Int} (h : I64 n) : reply_Stored.f n = some (mk ([111, 107, 32] ++ Lib.itoa n)) := by
 have hl := itoa_len h
 unfold reply_Stored.f
 rw [format_eq h]
 simp only [Option.bind_some]
 have e : ([(⟨#[111, 107]⟩ : ByteArray), mk (Lib.itoa n)] : List ByteArray) = ([[111, 107], Lib.itoa n] : List T).map mk := rfl
 rw [e, say_eq (by simp) (by rw [join2]; simp only [List.length_append, List.length_cons, List.length_nil]; omega), join2]
 rfl
theorem sub_eq {n : Int} (h : I64 n) : reply_Sub.f n = some (mk ([115, 117, 98, 32] ++ Lib.itoa n)) := by
 have hl := itoa_len h
 unfold reply_Sub.f
 rw [format_eq h]
 simp only [Option.bind_some]
 have e : ([(⟨#[115, 117, 98]⟩ : ByteArray), mk (Lib.itoa n)] : List ByteArray) = ([[115, 117, 98], Lib.itoa n] : List T).map mk := rfl
 rw [e, say_eq (by simp) (by rw [join2]; simp only [List.length_append, List.length_cons, List.length_nil]; omega), join2]
 rfl
theorem rstored_eq {n : Int} (h : I64 n) {k : Nat} (hk : 40 ≤ k) : r23_Stored.f k n = some (mk ([111, 107, 32] ++ Lib.itoa n)) := by
 have hl := itoa_len h
 unfold r23_Stored.f
 rw [number_eq h hk]
 simp only [Option.bind_some]
 rw [mk_size, if_pos (by omega), show (⟨#[111, 107, 32]⟩ : ByteArray) = mk [111, 107, 32] from rfl, mk_append]
theorem rsub_eq {n : Int} (h : I64 n) {k : Nat} (hk : 40 ≤ k) : r23_Sub.f k n = some (mk ([115, 117, 98, 32] ++ Lib.itoa n)) := by
 have hl := itoa_len h
 unfold r23_Sub.f
 rw [number_eq h hk]
 simp only [Option.bind_some]
 rw [mk_size, if_pos (by omega), show (⟨#[115, 117, 98, 32]⟩ : ByteArray) = mk [115, 117, 98, 32] from rfl, mk_append]
def statW : T := [115, 116, 97, 116]
theorem tails_len {l : List Int} (h : ∀ n ∈ l, I64 n) : (Lib.joinTail [32] (l.map Lib.itoa)).length ≤ 101 * l.length := by
 induction l with
 | nil => exact Nat.zero_le _
 | cons a l ih =>
  have h1 := itoa_len (h a List.mem_cons_self)
  have h2 := ih (fun n hn => h n (List.mem_cons_of_mem _ hn))
  rw [List.map_cons, tail_cons, List.length_append, List.length_append, List.length_singleton, List.length_cons]
  omega
theorem stat_l0 {l : List Int} (hn : l.length ≤ 100) (h : ∀ n ∈ l, I64 n) (d : Nat) : ∀ (i k : Nat), i + d = l.length → d < k →
 reply_Stat.l0 k (((statW :: (l.take i).map Lib.itoa) : List T).map mk) l (l.length : Int) (i : Int) = some (mk (statW ++ Lib.joinTail [32] (l.map Lib.itoa))) := by
 induction d with
 | zero =>
  intro i k hi hk
  obtain ⟨k, rfl⟩ := succ_of hk
  have hl := tails_len h
  simp only [reply_Stat.l0]
  rw [if_neg (by omega), List.take_of_length_le (by omega), say_eq (by rw [List.length_cons, List.length_map]; omega) (by rw [Lib.join_cons, List.length_append]; have : statW.length = 4 := rfl; omega)]
  simp only [Option.bind_some]
  rw [Lib.join_cons]
 | succ d ih =>
  intro i k hi hk
  obtain ⟨k, rfl⟩ := succ_of hk
  have hlt : i < l.length := by omega
  have h1 := ih (i + 1) k (by omega) (by omega)
  simp only [reply_Stat.l0]
  rw [if_pos (by omega), if_pos (by omega), if_pos (by omega), rd_at hlt, format_eq (h _ (List.getElem_mem hlt))]
  simp only [Option.bind_some]
  rw [if_pos (by rw [List.length_map, List.length_cons, List.length_map, List.length_take]; omega), w64s (by omega)]
  rw [take_at hlt, List.map_append, ← List.cons_append, List.map_append] at h1
  exact h1
theorem stat_eq {l : List Int} (hn : l.length ≤ 100) (h : ∀ n ∈ l, I64 n) {k : Nat} (hk : 100 < k) : reply_Stat.f k l = some (mk (statW ++ Lib.joinTail [32] (l.map Lib.itoa))) := by
 have h0 := stat_l0 hn h l.length 0 k (by omega) (by omega)
 rw [List.take_zero] at h0
 exact h0
theorem rstat_l0 {l : List Int} (hn : l.length ≤ 100) (h : ∀ n ∈ l, I64 n) (d : Nat) : ∀ (i k : Nat) (acc : T), i + d = l.length → d + 50 < k → acc.length ≤ 4 + 101 * i →
 r23_Stat.l0 k l (mk acc) (i : Int) = some (mk (acc ++ Lib.joinTail [32] ((l.drop i).map Lib.itoa))) := by
 induction d with
 | zero =>
  intro i k acc hi hk ha
  obtain ⟨k, rfl⟩ := succ_of hk
  simp only [r23_Stat.l0]
  rw [if_neg (by omega), List.drop_of_length_le (by omega)]
  simp [Lib.joinTail]
 | succ d ih =>
  intro i k acc hi hk ha
  obtain ⟨k, rfl⟩ := succ_of hk
  have hlt : i < l.length := by omega
  have hI := h _ (List.getElem_mem hlt)
  have hil := itoa_len hI
  have h1 := ih (i + 1) k (acc ++ [32] ++ Lib.itoa l[i]) (by omega) (by omega) (by rw [List.length_append, List.length_append, List.length_singleton]; omega)
  simp only [r23_Stat.l0]
  rw [if_pos (by omega), mk_size, if_pos (by omega), if_pos (by omega), rd_at hlt, number_eq hI (by omega)]
  simp only [Option.bind_some]
  rw [show (⟨#[32]⟩ : ByteArray) = mk [32] from rfl, mk_append, mk_append, mk_size, mk_size, if_pos (by rw [List.length_append, List.length_singleton]; omega), w64s (by omega), h1, drop_at hlt, List.map_cons, tail_cons]
  simp
theorem rstat_eq {l : List Int} (hn : l.length ≤ 100) (h : ∀ n ∈ l, I64 n) {k : Nat} (hk : 200 < k) : r23_Stat.f k l = some (mk (statW ++ Lib.joinTail [32] (l.map Lib.itoa))) := by
 have h0 := rstat_l0 hn h l.length 0 k statW (by omega) (by omega) (by decide)
 rw [List.drop_zero] at h0
 exact h0
theorem ReplyTells : w23_ReplyTells.Pure := by
 intro e n l _ hn hl _
 refine ⟨1000, ?_⟩
 unfold w23_ReplyTells.f
 rw [alive_eq 1000 (by omega)]
 simp only [Option.bind_some, if_true]
 by_cases c : (l.length : Int) > 100
 ·
  rw [if_pos c]
 ·
  have hI : ∀ n ∈ l, I64 n := fun n hm => wf64 (hl.2 n hm)
  obtain ⟨s, h1, h2⟩ := err_both e
  rw [if_neg c, if_pos (by simp only [List.length_nil]; omega), h1, h2, stored_eq (wf64 hn), rstored_eq (wf64 hn) (by omega), sub_eq (wf64 hn), rsub_eq (wf64 hn) (by omega)]
  simp only [Option.bind_some, if_true, List.nil_append]
  rw [stat_eq (by omega) hI (by omega), rstat_eq (by omega) hI (by omega)]
  simp only [Option.bind_some, beq_self_eq_true]
end Go.Proofs.YteckidchnicjeaaGreatDoor.Pure
end
