/- Rows' text, in plain Lean; and that the program's functions compute just that. Conditions: numbers are of 64 bits, at most 1000 rows, their texts of at most 1000 bytes. -/
import Derived.Test.YtjheajgckpfieaaDoorNumPlain
import Derived.Test.YtjheajgckpfieaaDoorXx3
namespace Go.Proofs.YtjheajgckpfieaaDoor.Pure
open Go.RowKit Go.Proofs.YtjheajgckpfieaaDoor.X Go.Proofs.YtjheajgckpfieaaDoorW.PrintWords Go.Proofs.YtjheajgckpfieaaDoorW.PrintLast Go.Proofs.YtjheajgckpfieaaDoorW.PrintMore Go.Proofs.YtjheajgckpfieaaDoor.Aid Go.Proofs.YtjheajgckpfieaaDoor.Bytes

abbrev Rw := S59
theorem rdR {l : List Rw} {i : Nat} (h : i < l.length) : rd_T59 l (i : Int) = l[i] := getD_at h _
/-- A row's text. -/
def rowT (x : Rw) : T := Lib.itoa x.f0 ++ [124] ++ bl x.f1 ++ [124] ++ txt x.f2.f0 x.f2.f1
/-- Rows that may be told. -/
def GRow (x : Rw) : Prop := I64 x.f0 ∧ x.f1.size ≤ 1000 ∧ I64 x.f2.f0
def GRows (l : List Rw) : Prop := l.length ≤ 1000 ∧ ∀ x ∈ l, GRow x
/-- Rows' text. -/
def rowsT (l : List Rw) : T := if l = [] then [45] else Lib.join (l.map rowT) [59]
theorem txt_len {n : Int} (h : I64 n) (o : Bool) : (txt n o).length ≤ 101 := by
  have := itoa_len h
  unfold txt
  split
  · rw [List.length_append, List.length_singleton]; omega
  · omega
theorem rowT_len {x : Rw} (h : GRow x) : (rowT x).length ≤ 1300 := by
  obtain ⟨h0, h1, h2⟩ := h
  have a := itoa_len h0
  have b := txt_len h2 x.f2.f1
  unfold rowT
  simp only [List.length_append, List.length_singleton, bl_len]
  omega
theorem rows_tot {l : List Rw} (h : GRows l) : tot (l.map rowT) ≤ 1300000 := by
  have h1 := tot_le 1300 (l.map rowT) (fun x hx => by
    obtain ⟨y, hy, rfl⟩ := List.mem_map.mp hx
    exact rowT_len (h.2 y hy))
  rw [List.length_map] at h1
  have := h.1
  omega
theorem rowsT_len {l : List Rw} (h : GRows l) : (rowsT l).length ≤ 1310000 := by
  unfold rowsT
  split
  · simp
  · have h1 := join_len [59] (l.map rowT)
    have h2 := rows_tot h
    have h3 := h.1
    rw [List.length_map, List.length_singleton] at h1
    omega
theorem row_one {x : Rw} (h : GRow x) : word_Join.f (mk [124]) [mk (Lib.itoa x.f0), x.f1, mk (txt x.f2.f0 x.f2.f1)] = some (mk (rowT x)) := by
  have e : Lib.join [Lib.itoa x.f0, bl x.f1, txt x.f2.f0 x.f2.f1] [124] = rowT x := by
    rw [Lib.join_cons, tail_cons, tail_cons]
    simp [rowT, Lib.joinTail]
  have hl := rowT_len h
  have := join_eq (L := [Lib.itoa x.f0, bl x.f1, txt x.f2.f0 x.f2.f1]) (s := [124]) (by simp) (by rw [e]; omega)
  rw [e, List.map_cons, List.map_cons, List.map_cons, bl_eta] at this
  exact this
theorem rows_l0 {l : List Rw} (h : GRows l) (d : Nat) : ∀ (i k : Nat), i + d = l.length → d < k →
    row_Text.l0 k ((l.take i).map fun x => mk (rowT x)) l (l.length : Int) (i : Int) = some (mk (Lib.join (l.map rowT) [59])) := by
  have hl := h.1
  induction d with
  | zero =>
    intro i k hi hk
    obtain ⟨k, rfl⟩ := succ_of hk
    have hj := join_len [59] (l.map rowT)
    have ht := rows_tot h
    rw [List.length_map, List.length_singleton] at hj
    have e := join_eq (L := l.map rowT) (s := [59]) (by rw [List.length_map]; omega) (by omega)
    rw [List.map_map] at e
    simp only [row_Text.l0]
    rw [if_neg (by omega), List.take_of_length_le (by omega)]
    have e2 : word_Join.f (⟨#[59]⟩ : ByteArray) (l.map fun x => mk (rowT x)) = some (mk (Lib.join (l.map rowT) [59])) := e
    rw [e2, Option.bind_some]
  | succ d ih =>
    intro i k hi hk
    obtain ⟨k, rfl⟩ := succ_of hk
    have hlt : i < l.length := by omega
    have hx := h.2 _ (List.getElem_mem hlt)
    have e := row_one hx
    have e2 : ((l.take i).map fun x => mk (rowT x)) ++ [mk (rowT l[i])] = (l.take (i + 1)).map fun x => mk (rowT x) := by rw [take_at hlt, List.map_append]; rfl
    simp only [row_Text.l0]
    rw [if_pos (by omega), if_pos (by omega), if_pos (by omega), rdR hlt, format_eq hx.1, Option.bind_some, (text_eq hx.2.2 l[i].f2.f1 (k := 40) (Nat.le_refl _)).1, Option.bind_some]
    have e' : word_Join.f (⟨#[124]⟩ : ByteArray) [mk (Lib.itoa l[i].f0), l[i].f1, mk (txt l[i].f2.f0 l[i].f2.f1)] = some (mk (rowT l[i])) := e
    rw [e', Option.bind_some, if_pos (by rw [List.length_map, List.length_take]; omega), w64s (by omega), e2]
    exact ih (i + 1) k (by omega) (by omega)
theorem rows_eq {l : List Rw} (h : GRows l) {k : Nat} (hk : 1010 ≤ k) : row_Text.f k l = some (mk (rowsT l)) := by
  have hl := h.1
  unfold row_Text.f rowsT
  by_cases c : l = []
  · subst c
    rfl
  · have : l.length ≠ 0 := fun e => c (List.eq_nil_of_length_eq_zero e)
    rw [if_neg (by omega), if_neg c]
    exact rows_l0 h l.length 0 k (by omega) (by omega)
end Go.Proofs.YtjheajgckpfieaaDoor.Pure
