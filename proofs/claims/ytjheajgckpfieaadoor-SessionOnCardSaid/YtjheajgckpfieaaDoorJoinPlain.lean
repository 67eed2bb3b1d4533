/- Texts joined, in plain Lean; and that the program's functions and the references' compute just that. Conditions: the texts are short enough for the machine. -/
import Derived.Test.YtjheajgckpfieaaDoorBytes
import Derived.Test.YtjheajgckpfieaaDoorXx2
import Derived.Test.YtjheajgckpfieaaDoorXx10
namespace Go.Proofs.YtjheajgckpfieaaDoor.Pure
open Go.RowKit Go.Proofs.YtjheajgckpfieaaDoor.X Go.Proofs.YtjheajgckpfieaaDoorW.PrintWords Go.Proofs.YtjheajgckpfieaaDoorW.PrintLast Go.Proofs.YtjheajgckpfieaaDoorW.PrintMore Go.Proofs.YtjheajgckpfieaaDoor.Aid Go.Proofs.YtjheajgckpfieaaDoor.Bytes

abbrev T := List UInt8
def bl (s : ByteArray) : T := s.data.toList
theorem bl_eta (s : ByteArray) : mk (bl s) = s := mk_eta s
theorem bl_len (s : ByteArray) : (bl s).length = s.size := by rw [← mk_size, bl_eta]
theorem join_eq {L : List T} {s : T} (hn : L.length ≤ 100000) (hj : (Lib.join L s).length ≤ 100000000) : word_Join.f (mk s) (L.map mk) = some (mk (Lib.join L s)) := by
  unfold word_Join.f strings_Join.f
  rw [List.length_map, map_mk, mk_data, if_pos ⟨by omega, by omega⟩]
  rfl
/-- How many bytes. -/
def tot (L : List T) : Nat := L.flatten.length
theorem tot_cons (x : T) (L : List T) : tot (x :: L) = x.length + tot L := by simp [tot]
theorem tail_cons (s x : T) (L : List T) : Lib.joinTail s (x :: L) = s ++ x ++ Lib.joinTail s L := by simp [Lib.joinTail]
theorem tail_len (s : T) (L : List T) : (Lib.joinTail s L).length = L.length * s.length + tot L := by
  induction L with
  | nil => simp [Lib.joinTail, tot]
  | cons x L ih =>
    have : Lib.joinTail s (x :: L) = s ++ x ++ Lib.joinTail s L := by simp [Lib.joinTail]
    rw [this, tot_cons, List.length_append, List.length_append, ih, List.length_cons, Nat.succ_mul]
    omega
theorem join_len (s : T) (L : List T) : (Lib.join L s).length ≤ L.length * s.length + tot L := by
  cases L with
  | nil => simp [Lib.join_nil]
  | cons x L =>
    rw [Lib.join_cons, List.length_append, tail_len, tot_cons, List.length_cons, Nat.succ_mul]
    omega
theorem rjoin_l0 {L : List T} {s : T} (hn : L.length ≤ 100000) (d : Nat) : ∀ (i k : Nat) (acc : T), i + d = L.length → d < k → 0 < i → acc.length + d * s.length + tot (L.drop i) ≤ 1000000000 →
    ebbtideref02_Join.l0 k (mk s) (L.map mk) (mk acc) (i : Int) = some (mk (acc ++ Lib.joinTail s (L.drop i))) := by
  induction d with
  | zero =>
    intro i k acc hi hk _ _
    obtain ⟨k, rfl⟩ := succ_of hk
    simp only [ebbtideref02_Join.l0, List.length_map]
    rw [if_neg (by omega), List.drop_of_length_le (by omega)]
    simp [Lib.joinTail]
  | succ d ih =>
    intro i k acc hi hk h0 hb
    obtain ⟨k, rfl⟩ := succ_of hk
    have hlt : i < L.length := by omega
    rw [drop_at hlt, tot_cons, Nat.succ_mul] at hb
    simp only [ebbtideref02_Join.l0, List.length_map]
    rw [if_pos (by omega), if_pos (by omega), mk_append, rds hlt, mk_append, mk_size, mk_size, mk_size, mk_size, List.length_append, if_pos (by omega), if_pos (by omega), if_pos (by omega), w64s (by omega), ih (i + 1) k _ (by omega) (by omega) (by omega) (by rw [List.length_append, List.length_append]; omega), drop_at hlt, tail_cons]
    simp only [List.append_assoc]
theorem rjoin_eq {L : List T} {s : T} (hn : L.length ≤ 100000) (hs : s.length ≤ 10) (ht : tot L ≤ 100000000) {k : Nat} (hk : L.length + 1 < k) : ebbtideref02_Join.f k (mk s) (L.map mk) = some (mk (Lib.join L s)) := by
  obtain ⟨k, rfl⟩ := succ_of (show 0 < k by omega)
  have hm : L.length * s.length ≤ 100000 * 10 := Nat.mul_le_mul hn hs
  unfold ebbtideref02_Join.f
  simp only [ebbtideref02_Join.l0, List.length_map]
  cases L with
  | nil =>
    rw [if_neg (by simp)]
    rfl
  | cons x L =>
    rw [tot_cons] at ht
    rw [List.length_cons, Nat.succ_mul] at hm
    have he : ∀ y : ByteArray, (⟨#[]⟩ : ByteArray) ++ y = y := fun y => by
      have := mk_append [] y.data.toList
      rw [mk_eta, List.nil_append, mk_eta] at this
      exact this
    have hr : rdOf ByteArray.empty ((x :: L).map mk) 0 = mk x := rds (L := x :: L) (i := 0) (by simp)
    rw [if_pos (by simp only [List.length_cons]; omega), if_neg (by omega), if_pos (by omega), hr, he, mk_size, if_pos (by show 0 + x.length ≤ _; omega)]
    have h := rjoin_l0 (L := x :: L) (s := s) hn L.length 1 k x (by rw [List.length_cons]; omega) (by rw [List.length_cons] at hk; omega) (by omega) (by rw [List.drop_succ_cons, List.drop_zero]; omega)
    rw [List.drop_succ_cons, List.drop_zero, ← Lib.join_cons] at h
    rw [show wrap64 (0 + 1) = ((1 : Nat) : Int) from by unfold wrap64; omega]
    exact h
theorem tot_le (b : Nat) : ∀ (L : List T), (∀ x ∈ L, x.length ≤ b) → tot L ≤ L.length * b
  | [], _ => by simp [tot]
  | x :: L, h => by
    have h1 := h x List.mem_cons_self
    have h2 := tot_le b L (fun y hy => h y (List.mem_cons_of_mem _ hy))
    rw [tot_cons, List.length_cons, Nat.succ_mul]
    omega
end Go.Proofs.YtjheajgckpfieaaDoor.Pure
