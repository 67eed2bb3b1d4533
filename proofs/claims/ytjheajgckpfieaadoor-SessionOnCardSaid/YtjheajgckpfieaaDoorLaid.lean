/- What the contracts of library functions ask of the library's own variables; that it stays as it was while nothing elder is written; and that a row's list of variables and the world's shape give it. No condition of our own. -/
import Derived.Test.YtjheajgckpfieaaDoorProg
import Derived.Test.YtjheajgckpfieaaDoorRows
import Derived.Below
import Derived.Lib.LaidTab
import Derived.Stop.LaidErr
import Derived.LaidHandle
import Derived.MakeChecks
import Derived.HandedShaped
import Derived.Handed
import Derived.Shelf.Vars
import Derived.Sort.Grow
import Derived.Deep.Draws
import Derived.LaidLaws
import Derived.Lib.ItoaNum
import Derived.KernelRfl
namespace Go.Proofs.YtjheajgckpfieaaDoor.X
open Go.RowKit
theorem var_below {P : Program} {n : String} {g : Nat} {cs : Array Value} {w w' : World} (hg : P.globalNamed n = some g) (h : w.var? P n = some cs) (hb : Below w.heap.size w w') : w'.var? P n = some cs := by
  unfold World.var? at h ⊢
  rw [hg] at h ⊢
  simp only [Option.bind_some] at h ⊢
  have hlt : g < w.heap.size := by
    rcases Nat.lt_or_ge g w.heap.size with h' | h'
    · exact h'
    · rw [Array.getElem?_eq_none h'] at h; cases h
  rw [hb.block g hlt]
  exact h
theorem below_growX (w : World) (k : Nat) (os : Array Obj) : Below w.heap.size w (Sort.grow (w.drewN k) os) := by
  refine ⟨rfl, rfl, rfl, ?_, fun i hi => ?_⟩
  · show w.heap.size ≤ (w.heap ++ os).size
    rw [Array.size_append]
    omega
  · show (w.heap ++ os)[i]? = w.heap[i]?
    rw [Array.getElem?_append_left hi]
/-- What is asked of the library's own variables. -/
def LD (w : World) : Prop := Lib.TabIs Tryd.prog w "internal/strconv.uint64pow10" .u64 Lib.pow10Tab ∧ (∃ m : Int, w.cell? ⟨1, 0, none⟩ = some (.int .i64 m))
theorem LD.below {w w' : World} (h : LD w) (hb : Below w.heap.size w w') : LD w' := by
  obtain ⟨h1, h2⟩ := h
  exact ⟨var_below (g := 0) (by kernel_rfl) h1 hb, (by obtain ⟨m, hm⟩ := h2; exact ⟨m, (hb.cell (World.block_lt_of_cell? w _ hm)).trans hm⟩)⟩
theorem LD.pow10 {w : World} (h : LD w) : Lib.TabIs Tryd.prog w "internal/strconv.uint64pow10" .u64 Lib.pow10Tab := h.1
theorem LD.maxLen {w : World} (h : LD w) : (∃ m : Int, w.cell? ⟨1, 0, none⟩ = some (.int .i64 m)) := h.2

set_option maxRecDepth 100000 in
theorem LD_of {W : World} {laid : List (String × DataW Unit)} (hl : laid = Rows.sessionAddsRow.laid) (hsh : W.ShapedOpen Tryd.prog) (hL : laidMetH Tryd.prog laid W) : LD W := by
  subst hl
  have hL0 := hL
  rw [MakeChecks.laidMetH_plain _ _ _ (by kernel_rfl)] at hL0
  exact ⟨(Lib.tabIs_of_head (g := 0) (t := 93) (e := 85) (n := 20) (by kernel_rfl) (by kernel_rfl) (by kernel_rfl) (by kernel_rfl) (by kernel_rfl) (by kernel_rfl) hL0.tail.tail), (cell_of_shapedOpen_int (g := 1) (t := 3) (zero := #[.int .i64 0]) hsh (of_decide_eq_true (by kernel_rfl)) (by kernel_rfl) rfl (by kernel_rfl) (by kernel_rfl) (by kernel_rfl))⟩
end Go.Proofs.YtjheajgckpfieaaDoor.X
