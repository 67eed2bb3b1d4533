/- Texts as lists of bytes, for the plain laws. No condition of its own. -/
import Derived.Test.YtjheajgckpfieaaDoorAid
import Derived.Lib.Strings
import Derived.Lib.Join
import Derived.Lib.Bytealg
import Derived.Lib.SmallJoins
import Derived.Lib.SlTrimSet
import Derived.Laws.BytesArg
namespace Go.Proofs.YtjheajgckpfieaaDoor.Bytes
open Go.RowKit Go.Proofs.YtjheajgckpfieaaDoorW.PrintWords Go.Proofs.YtjheajgckpfieaaDoorW.PrintLast Go.Proofs.YtjheajgckpfieaaDoorW.PrintMore Go.Proofs.YtjheajgckpfieaaDoor.Aid

def mk (l : List UInt8) : ByteArray := ⟨l.toArray⟩
theorem mk_data (l : List UInt8) : (mk l).data.toList = l := by simp [mk]
theorem mk_eta (s : ByteArray) : mk s.data.toList = s := by cases s; simp [mk]
theorem mk_size (l : List UInt8) : (mk l).size = l.length := by simp [mk, ByteArray.size]
theorem mk_toList (l : List UInt8) : (mk l).toList = l := by rw [ByteArray.toList_eq, mk_data]
theorem mk_inj {a b : List UInt8} (h : mk a = mk b) : a = b := by rw [← mk_data a, h, mk_data]
theorem mk_append (a b : List UInt8) : mk a ++ mk b = mk (a ++ b) := by
  rw [← mk_eta (mk a ++ mk b)]
  rw [Go.Joins.data_append, mk_data, mk_data]
theorem mk_extract (l : List UInt8) (a b : Nat) : (mk l).extract a b = mk ((l.drop a).take (b - a)) := by
  rw [← mk_eta ((mk l).extract a b)]
  congr 1
  rw [Lib.extract_data, mk_data]
theorem mk_from (l : List UInt8) (a : Nat) : (mk l).extract a (mk l).size = mk (l.drop a) := by
  rw [mk_extract, mk_size, List.take_of_length_le (by rw [List.length_drop]; exact Nat.le_refl _)]
theorem mk_upto (l : List UInt8) (b : Nat) : (mk l).extract 0 b = mk (l.take b) := by
  rw [mk_extract, List.drop_zero, Nat.sub_zero]
theorem bt_mk {l : List UInt8} {i : Nat} (h : i < l.length) : bt (mk l) (i : Int) = ((l[i]).toNat : Int) := by
  have h2 : ((i : Int)).toNat < (mk l).size := by rw [mk_size]; omega
  rw [← bt_at (mk l) (i : Int) h2]
  rfl
theorem strs_mk (l : List ByteArray) : ∃ L : List (List UInt8), l = L.map mk :=
  ⟨l.map (·.data.toList), by
    rw [List.map_map]
    conv => lhs; rw [← List.map_id l]
    exact List.map_congr_left (fun x _ => (mk_eta x).symm)⟩
theorem str_mk (s : ByteArray) : ∃ l : List UInt8, s = mk l := ⟨s.data.toList, (mk_eta s).symm⟩
theorem map_mk (L : List (List UInt8)) : (L.map mk).map (·.data.toList) = L := by
  rw [List.map_map]
  conv => rhs; rw [← List.map_id L]
  exact List.map_congr_left (fun x _ => mk_data x)
theorem rds {L : List (List UInt8)} {i : Nat} (h : i < L.length) : rdOf ByteArray.empty (L.map mk) (i : Int) = mk L[i] := by
  rw [rdOf_at (by rw [List.length_map]; exact h), List.getElem_map]
theorem byte_of {a : Int} (h : (Lit.int .u8 a).wf = true) : ∃ c : UInt8, a = (c.toNat : Int) := by
  simp only [Lit.wf, Bool.and_eq_true, decide_eq_true_eq] at h
  have h1 : 0 ≤ a := h.1
  have h2 : a ≤ 255 := h.2
  refine ⟨UInt8.ofNat a.toNat, ?_⟩
  rw [UInt8.toNat_ofNat']
  omega
theorem byte_back (c : UInt8) : ((c.toNat : Int)).toNat.toUInt8 = c := by
  rw [Int.toNat_natCast]
  simp
theorem byte_eq {a b : UInt8} : ((a.toNat : Int) = (b.toNat : Int)) ↔ a = b := by
  constructor
  · intro h
    exact UInt8.toNat_inj.mp (by omega)
  · intro h
    rw [h]
theorem one_mk (c : UInt8) : strOfNums [(c.toNat : Int)] = mk [c] := by
  unfold strOfNums mk
  simp
end Go.Proofs.YtjheajgckpfieaaDoor.Bytes
