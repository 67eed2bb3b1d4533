/- An answer's text, in plain Lean; and that the program's functions compute just that. Conditions: those of the text that this one stands on. -/
import Derived.Test.YtjheajgckpfieaaDoorRowsPlain
import Derived.Test.YtjheajgckpfieaaDoorXx3
namespace Go.Proofs.YtjheajgckpfieaaDoor.Pure
open Go.RowKit Go.Proofs.YtjheajgckpfieaaDoor.X Go.Proofs.YtjheajgckpfieaaDoorW.PrintWords Go.Proofs.YtjheajgckpfieaaDoorW.PrintLast Go.Proofs.YtjheajgckpfieaaDoorW.PrintMore Go.Proofs.YtjheajgckpfieaaDoor.Aid Go.Proofs.YtjheajgckpfieaaDoor.Bytes

/-- An answer's text. -/
def ansT (b : Int) (l : List Rw) : T := [114, 111, 119, 115, 32] ++ Lib.itoa b ++ [32] ++ rowsT l
theorem ans_eq (a : Int) {b : Int} {l : List Rw} (hb : I64 b) (h : GRows l) {k : Nat} (hk : 2200 ≤ k) : reply_Rows.f k a b l = some (mk (ansT b l)) := by
  have h1 := itoa_len hb
  have h2 := rowsT_len h
  have e : Lib.join [[114, 111, 119, 115], Lib.itoa b, rowsT l] [32] = ansT b l := by
    rw [Lib.join_cons, tail_cons, tail_cons]
    simp [ansT, Lib.joinTail]
  have hl : (ansT b l).length ≤ 1400000 := by
    unfold ansT
    simp only [List.length_append, List.length_cons, List.length_nil]
    omega
  have hj : word_Join.f (⟨#[32]⟩ : ByteArray) [(⟨#[114, 111, 119, 115]⟩ : ByteArray), mk (Lib.itoa b), mk (rowsT l)] = some (mk (ansT b l)) := by
    have := join_eq (L := [[114, 111, 119, 115], Lib.itoa b, rowsT l]) (s := [32]) (by simp) (by rw [e]; omega)
    rw [e] at this
    exact this
  unfold reply_Rows.f reply_say.f
  rw [format_eq hb, Option.bind_some, rows_eq h (by omega), Option.bind_some, hj]
  rfl
end Go.Proofs.YtjheajgckpfieaaDoor.Pure
