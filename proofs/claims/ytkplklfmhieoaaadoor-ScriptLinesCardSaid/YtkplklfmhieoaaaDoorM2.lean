/- Words that the kit's print and shelf lay for a claim (those that this claim's texts name), and words of this session's own, joined. No condition of its own. -/
import Derived.Test.YtkplklfmhieoaaaDoorProg
import Derived.Test.YtkplklfmhieoaaaDoorRows
import Derived.Below
import Derived.Lib.LaidTab
import Derived.Stop.LaidErr
import Derived.LaidHandle
import Derived.MakeChecks
import Derived.HandedShaped
import Derived.Handed
import Derived.Shelf.Vars
import Derived.Sort.Grow
import Derived.Deep.Draws
import Derived.LaidLaws
import Derived.Lib.ItoaNum
import Derived.KernelRfl
import Derived.Test.YtkplklfmhieoaaaDoorM0
import Derived.Laws.CopyOwn
import Derived.Lib.AppendZerosOnto
import Derived.Lib.Overlaps
import Derived.Laws.Externs
import Derived.Deep.RegionLaw
import Derived.Shelf.RegionOpenPlain
import Derived.Shelf.Strings.SlTrimAscii
import Derived.Shelf.Strings.Builder1
import Derived.Shelf.Strings.Builder2
import Derived.Shelf.Strings.OnBuilder
import Derived.Shelf.Strings.Trim
import Derived.Shelf.Small.Utf8
import Derived.Shelf.Small.Strs
import Derived.Shelf.Strconv.Itoa0
import Derived.Shelf.Strconv.Itoa1
import Derived.Shelf.LaysM
import Derived.Shelf.Strconv.Itoa2
import Derived.Shelf.Strconv.Itoa3
import Derived.Shelf.Strconv.Itoa4
import Derived.Shelf.Strconv.ParseIntEmpty
import Derived.Shelf.Strconv.Clone
import Derived.Shelf.Strconv.SyntaxError
import Derived.Shelf.LaysC
import Derived.Shelf.Strconv.ToError
import Derived.Shelf.Strconv.Lower
import Derived.Shelf.Strconv.ParseUint10
import Derived.Shelf.Strconv.ParseUint10Empty
import Derived.Shelf.Strconv.ParseUint10Any
import Derived.Shelf.Strconv.ParseInt10
import Derived.Shelf.Strconv.RangeError
import Derived.Shelf.Strconv.ToErrorRange
import Derived.Shelf.Strconv.ParseUintEmpty
import Derived.Shelf.Strconv.ParseUint10b64
import Derived.Shelf.Strconv.ParseUint10b32
import Derived.Shelf.Strconv.ParseUint10b16
import Derived.Shelf.Strconv.ParseUint10b8
import Derived.Shelf.Strconv.ParseUint10At
import Derived.Shelf.Strconv.ParseInt10At64
import Derived.Shelf.Strconv.ParseInt10At32
import Derived.Shelf.Strconv.ParseInt10At16
import Derived.Shelf.Strconv.ParseInt10At8
import Derived.Shelf.Strconv.ParseInt10All
import Derived.Shelf.Strconv.ParseIntPublic10
import Derived.Shelf.Strconv.ErrVarParseInt
import Derived.Shelf.Strings.Search1
import Derived.Shelf.Strings.Search2
import Derived.Shelf.Strings.Cut
import Derived.Shelf.Strings.Shaped
import Derived.Shelf.Strings.Prefix
import Derived.Shelf.Unicode.Decode
import Derived.Shelf.Strings.Runes
import Derived.Shelf.Strings.AsciiSet
import Derived.Shelf.Unicode.DecodeSlow
import Derived.Shelf.Unicode.DecodeAny
import Derived.Shelf.Unicode.DecodeLast
section
namespace Go.Proofs.YtkplklfmhieoaaaDoor.X
open Go.RowKit
theorem var_below {P : Program} {n : String} {g : Nat} {cs : Array Value} {w w' : World} (hg : P.globalNamed n = some g) (h : w.var? P n = some cs) (hb : Below w.heap.size w w') : w'.var? P n = some cs := by
 unfold World.var? at h ⊢
 rw [hg] at h ⊢
 simp only [Option.bind_some] at h ⊢
 have hlt : g < w.heap.size := by
  rcases Nat.lt_or_ge g w.heap.size with h' | h'
  ·
   exact h'
  ·
   rw [Array.getElem?_eq_none h'] at h; cases h
 rw [hb.block g hlt]
 exact h
theorem below_growX (w : World) (k : Nat) (os : Array Obj) : Below w.heap.size w (Sort.grow (w.drewN k) os) := by
 refine ⟨rfl, rfl, rfl, ?_, fun i hi => ?_⟩
 ·
  show w.heap.size ≤ (w.heap ++ os).size
  rw [Array.size_append]
  omega
 ·
  show (w.heap ++ os)[i]? = w.heap[i]?
  rw [Array.getElem?_append_left hi]
def LD (w : World) : Prop := Lib.TabIs Tryd.prog w "internal/strconv.uint64pow10" .u64 Lib.pow10Tab ∧ (∃ (tp : TypeId) (p : Value), w.var? Tryd.prog "strconv.ErrSyntax" = some #[.iface tp p]) ∧ (∃ (tp : TypeId) (p : Value), w.var? Tryd.prog "strconv.ErrRange" = some #[.iface tp p]) ∧ (∃ m : Int, w.cell? ⟨0, 0, none⟩ = some (.int .i64 m))
theorem LD.below {w w' : World} (h : LD w) (hb : Below w.heap.size w w') : LD w' := by
 obtain ⟨h1, h2, h3, h4⟩ := h
 exact ⟨var_below (g := 1) (by kernel_rfl) h1 hb, (by obtain ⟨tp, p, hv⟩ := h2; exact ⟨tp, p, var_below (g := 2) (by kernel_rfl) hv hb⟩), (by obtain ⟨tp, p, hv⟩ := h3; exact ⟨tp, p, var_below (g := 3) (by kernel_rfl) hv hb⟩), (by obtain ⟨m, hm⟩ := h4; exact ⟨m, (hb.cell (World.block_lt_of_cell? w _ hm)).trans hm⟩)⟩
theorem LD.pow10 {w : World} (h : LD w) : Lib.TabIs Tryd.prog w "internal/strconv.uint64pow10" .u64 Lib.pow10Tab := h.1
theorem LD.ErrSyntax {w : World} (h : LD w) : (∃ (tp : TypeId) (p : Value), w.var? Tryd.prog "strconv.ErrSyntax" = some #[.iface tp p]) := h.2.1
theorem LD.ErrRange {w : World} (h : LD w) : (∃ (tp : TypeId) (p : Value), w.var? Tryd.prog "strconv.ErrRange" = some #[.iface tp p]) := h.2.2.1
theorem LD.maxLen {w : World} (h : LD w) : (∃ m : Int, w.cell? ⟨0, 0, none⟩ = some (.int .i64 m)) := h.2.2.2
theorem star_ : "*" ++ "errors.errorString" = "*errors.errorString" := by decide
theorem row_ (u : TypeId) (h : Tryd.prog.typeName? 3 u = some "*errors.errorString") : u = 132 :=
 typeName_ptr_named (nm := "errors.errorString") (by rw [star_]; kernel_rfl) (by kernel_rfl) (by decide) u (by rw [star_]; exact h)
set_option maxRecDepth 100000 in
theorem LD_of {W : World} {laid : List (String × DataW Unit)} (hl : laid = Rows.scriptBackRow.laid) (hsh : W.ShapedOpen Tryd.prog) (hL : laidMetH Tryd.prog laid W) : LD W := by
 subst hl
 have hL0 := hL
 rw [MakeChecks.laidMetH_plain _ _ _ (by kernel_rfl)] at hL0
 exact ⟨(Lib.tabIs_of_head (g := 1) (t := 105) (e := 90) (n := 20) (by kernel_rfl) (by kernel_rfl) (by kernel_rfl) (by kernel_rfl) (by kernel_rfl) (by kernel_rfl) hL0.tail.tail), (by obtain ⟨a, s, hv, _, _, _⟩ := laid_sentinel (g := 2) (ti := 50) (te := 134) hL0.tail.tail.tail.tail.tail (by kernel_rfl) (by kernel_rfl) Tryd.underlying50 row_ Tryd.underlying132 Tryd.underlying134 rfl rfl Tryd.underlying9 (by kernel_rfl) (by kernel_rfl); exact ⟨_, _, hv⟩), (by obtain ⟨a, s, hv, _, _, _⟩ := laid_sentinel (g := 3) (ti := 50) (te := 134) hL0.tail.tail.tail.tail (by kernel_rfl) (by kernel_rfl) Tryd.underlying50 row_ Tryd.underlying132 Tryd.underlying134 rfl rfl Tryd.underlying9 (by kernel_rfl) (by kernel_rfl); exact ⟨_, _, hv⟩), (cell_of_shapedOpen_int (g := 0) (t := 3) (zero := #[.int .i64 0]) hsh (of_decide_eq_true (by kernel_rfl)) (by kernel_rfl) rfl (by kernel_rfl) (by kernel_rfl) (by kernel_rfl))⟩
end Go.Proofs.YtkplklfmhieoaaaDoor.X
end
section
namespace Go.Proofs.YtkplklfmhieoaaaDoor.InsDel
open Go.RowKit Go.Proofs.YtkplklfmhieoaaaDoorW.PrintWords Go.Proofs.YtkplklfmhieoaaaDoorW.PrintLast Go.Proofs.YtkplklfmhieoaaaDoorW.PrintMore
theorem free {α : Type} {d : Kd α} (hE : d.E = []) {w w1 : World} {base : Nat} {ok ok1 : Nat → Prop} {x : α} {cs : List Value} (h : d.M w base ok x cs) : d.M w1 base ok1 x cs := by
 have h1 := d.M_bound h
 have h2 : d.M w base (fun _ => False) x cs := d.M_mono (fun k hk => by
  obtain ⟨_, _, _, q, hq, _⟩ := hk
  rw [hE] at hq
  cases hq) h1
 exact d.M_mono (fun _ hk => hk.elim) (d.M_move (w1 := w1) (fun _ hk => hk.elim) h2)
end Go.Proofs.YtkplklfmhieoaaaDoor.InsDel
end
section
namespace Go.Proofs
open Go.Shelf
def Tryd.lays169_ren : Go.Shelf.Ren := ⟨fun | 169 => 20 | n => n, fun | 70 => 38 | 9 => 9 | 0 => 0 | 72 => 40 | 37 => 34 | 127 => 70 | 3 => 3 | 5 => 5 | n => n, fun | n => n⟩
theorem Tryd.lays169 : Go.Proofs.Lays.n169 Tryd.prog Tryd.lays169_ren := {
 mixed := by kernel_rfl
 f169 := Tryd.func20.trans (congrArg some (by kernel_rfl))
 t0 := Tryd.underlying0
 a0 := Tryd.isAgg0
 z0 := Tryd.sizeOf0
 v0 := Tryd.zeroValue0
 t3 := Tryd.underlying3
 a3 := Tryd.isAgg3
 z3 := Tryd.sizeOf3
 v3 := Tryd.zeroValue3
 t9 := Tryd.underlying9
 a9 := Tryd.isAgg9
 z9 := Tryd.sizeOf9
 v9 := Tryd.zeroValue9
 t37 := Tryd.underlying34
 a37 := Tryd.isAgg34
 z37 := Tryd.sizeOf34
 v37 := Tryd.zeroValue34
 t70 := Tryd.underlying38
 a70 := Tryd.isAgg38
 z70 := Tryd.sizeOf38
 v70 := Tryd.zeroValue38
 t72 := Tryd.underlying40
 a72 := Tryd.isAgg40
 z72 := Tryd.sizeOf40
 v72 := Tryd.zeroValue40
 t127 := Tryd.underlying70
 a127 := Tryd.isAgg70
 z127 := Tryd.sizeOf70
 v127 := Tryd.zeroValue70 }
theorem Tryd.Builder_Extra_169 : Builder.Extra Tryd.prog Tryd.lays169_ren := {
 sizeBuilder := by kernel_rfl
 liesBuilder := by kernel_rfl
 t5 := Tryd.underlying5
 a5 := Tryd.isAgg5
 z5 := Tryd.sizeOf5
 v5 := Tryd.zeroValue5
 infoByte := by kernel_rfl
 cellsByte := by kernel_rfl
 sizeByte := by kernel_rfl
 neB5 := by decide }
open Go.RowKit in
theorem Tryd.Builder_String_any (B b : Nat) (l : List UInt8) (w : World) (h : Lib.IsBuilder 40 5 B b (Lib.byteCells l) w) (hBw : B ≤ w.heap.size) :
 Calls Tryd.prog 20 #[.pointer (some ⟨b, 0, none⟩)] w fun e w' => e = .returned (.string ⟨l.toArray⟩) ∧ Below B w w' := Any.Builder_String_any Tryd.lays169 Tryd.Builder_Extra_169 B b l w h hBw
def Tryd.lays156_ren : Go.Shelf.Ren := ⟨fun | 156 => 33 | 165 => 44 | 166 => 17 | 169 => 20 | 240 => 32 | 241 => 55 | 276 => 43 | 277 => 75 | n => n, fun | 31 => 47 | 9 => 9 | 3 => 3 | 4 => 4 | 0 => 0 | 20 => 20 | 72 => 40 | 76 => 51 | 70 => 38 | 37 => 34 | 75 => 50 | 127 => 70 | 164 => 80 | 5 => 5 | 80 => 55 | n => n, fun | n => n⟩
theorem Tryd.lays156 : Go.Proofs.Lays.n156 Tryd.prog Tryd.lays156_ren := {
 mixed := by kernel_rfl
 f156 := Tryd.func33.trans (congrArg some (by kernel_rfl))
 f165 := Tryd.func44.trans (congrArg some (by kernel_rfl))
 f166 := Tryd.func17.trans (congrArg some (by kernel_rfl))
 f169 := Tryd.func20.trans (congrArg some (by kernel_rfl))
 f240 := Tryd.func32.trans (congrArg some (by kernel_rfl))
 f241 := Tryd.func55.trans (congrArg some (by kernel_rfl))
 f276 := Tryd.func43.trans (congrArg some (by kernel_rfl))
 f277 := Tryd.func75.trans (congrArg some (by kernel_rfl))
 t0 := Tryd.underlying0
 a0 := Tryd.isAgg0
 z0 := Tryd.sizeOf0
 v0 := Tryd.zeroValue0
 t3 := Tryd.underlying3
 a3 := Tryd.isAgg3
 z3 := Tryd.sizeOf3
 v3 := Tryd.zeroValue3
 t4 := Tryd.underlying4
 a4 := Tryd.isAgg4
 z4 := Tryd.sizeOf4
 v4 := Tryd.zeroValue4
 t9 := Tryd.underlying9
 a9 := Tryd.isAgg9
 z9 := Tryd.sizeOf9
 v9 := Tryd.zeroValue9
 t20 := Tryd.underlying20
 a20 := Tryd.isAgg20
 z20 := Tryd.sizeOf20
 v20 := Tryd.zeroValue20
 t31 := Tryd.underlying47
 a31 := Tryd.isAgg47
 z31 := Tryd.sizeOf47
 v31 := Tryd.zeroValue47
 t37 := Tryd.underlying34
 a37 := Tryd.isAgg34
 z37 := Tryd.sizeOf34
 v37 := Tryd.zeroValue34
 t70 := Tryd.underlying38
 a70 := Tryd.isAgg38
 z70 := Tryd.sizeOf38
 v70 := Tryd.zeroValue38
 t72 := Tryd.underlying40
 a72 := Tryd.isAgg40
 z72 := Tryd.sizeOf40
 v72 := Tryd.zeroValue40
 t75 := Tryd.underlying50
 a75 := Tryd.isAgg50
 z75 := Tryd.sizeOf50
 v75 := Tryd.zeroValue50
 t76 := Tryd.underlying51
 a76 := Tryd.isAgg51
 z76 := Tryd.sizeOf51
 v76 := Tryd.zeroValue51
 t127 := Tryd.underlying70
 a127 := Tryd.isAgg70
 z127 := Tryd.sizeOf70
 v127 := Tryd.zeroValue70
 t164 := Tryd.underlying80
 a164 := Tryd.isAgg80
 z164 := Tryd.sizeOf80
 v164 := Tryd.zeroValue80 }
theorem Tryd.Builder_Extra_156 : Builder.Extra Tryd.prog Tryd.lays156_ren := {
 sizeBuilder := by kernel_rfl
 liesBuilder := by kernel_rfl
 t5 := Tryd.underlying5
 a5 := Tryd.isAgg5
 z5 := Tryd.sizeOf5
 v5 := Tryd.zeroValue5
 infoByte := by kernel_rfl
 cellsByte := by kernel_rfl
 sizeByte := by kernel_rfl
 neB5 := by decide }
open Go.RowKit in
theorem Tryd.strings_Join_none (a : Option Addr) (c : Nat) (sep : ByteArray) (w : World) :
 Calls Tryd.prog 33 #[.slice a 0 c, .string sep] w fun e w' => e = .returned (.string ⟨#[]⟩) ∧ w' = w := Any.strings_Join_none Tryd.lays156 Tryd.Builder_Extra_156 a c sep w
open Go.RowKit in
theorem Tryd.strings_Join (bk o c : Nat) (xs : List ByteArray) (sep : ByteArray) (w : World) (hcells : ∀ (j : Nat) x, xs[j]? = some x → w.cell? ⟨bk, o + j, none⟩ = some (.string x)) (hbk : bk < w.heap.size) (hN : xs.length ≤ 140737488355328) (hcap : xs.length ≤ c) (hlen : (Lib.join (xs.map (·.data.toList)) sep.data.toList).length ≤ 140737488355328) :
 Calls Tryd.prog 33 #[.slice (some ⟨bk, o, none⟩) xs.length c, .string sep] w fun e w' => e = .returned (.string ⟨(Lib.join (xs.map (·.data.toList)) sep.data.toList).toArray⟩) ∧ Below w.heap.size w w' := Any.strings_Join Tryd.lays156 Tryd.Builder_Extra_156 bk o c xs sep w hcells hbk hN hcap hlen
def Tryd.lays160_ren : Go.Shelf.Ren := ⟨fun | 160 => 49 | 232 => 63 | 231 => 62 | 227 => 64 | 234 => 66 | 233 => 65 | 236 => 68 | 235 => 67 | 228 => 83 | 271 => 86 | 151 => 85 | 197 => 84 | 120 => 96 | 152 => 95 | 260 => 94 | 137 => 39 | 119 => 98 | 224 => 57 | 225 => 56 | 217 => 50 | 266 => 69 | n => n, fun | 9 => 9 | 4 => 4 | 3 => 3 | 5 => 5 | 117 => 100 | 116 => 99 | 0 => 0 | 124 => 103 | 21 => 21 | 105 => 120 | 46 => 68 | 119 => 135 | 139 => 138 | 138 => 137 | n => n, fun | 3 => 6 | 4 => 7 | n => n⟩
theorem Tryd.lays160 : Go.Proofs.Lays.n160 Tryd.prog Tryd.lays160_ren := {
 mixed := by kernel_rfl
 f119 := Tryd.func98.trans (congrArg some (by kernel_rfl))
 f120 := Tryd.func96.trans (congrArg some (by kernel_rfl))
 f137 := Tryd.func39.trans (congrArg some (by kernel_rfl))
 f151 := Tryd.func85.trans (congrArg some (by kernel_rfl))
 f152 := Tryd.func95.trans (congrArg some (by kernel_rfl))
 f160 := Tryd.func49.trans (congrArg some (by kernel_rfl))
 f197 := Tryd.func84.trans (congrArg some (by kernel_rfl))
 f217 := Tryd.func50.trans (congrArg some (by kernel_rfl))
 f224 := Tryd.func57.trans (congrArg some (by kernel_rfl))
 f225 := Tryd.func56.trans (congrArg some (by kernel_rfl))
 f227 := Tryd.func64.trans (congrArg some (by kernel_rfl))
 f228 := Tryd.func83.trans (congrArg some (by kernel_rfl))
 f231 := Tryd.func62.trans (congrArg some (by kernel_rfl))
 f232 := Tryd.func63.trans (congrArg some (by kernel_rfl))
 f233 := Tryd.func65.trans (congrArg some (by kernel_rfl))
 f234 := Tryd.func66.trans (congrArg some (by kernel_rfl))
 f235 := Tryd.func67.trans (congrArg some (by kernel_rfl))
 f236 := Tryd.func68.trans (congrArg some (by kernel_rfl))
 f260 := Tryd.func94.trans (congrArg some (by kernel_rfl))
 f266 := Tryd.func69.trans (congrArg some (by kernel_rfl))
 f271 := Tryd.func86.trans (congrArg some (by kernel_rfl))
 t0 := Tryd.underlying0
 a0 := Tryd.isAgg0
 z0 := Tryd.sizeOf0
 v0 := Tryd.zeroValue0
 t3 := Tryd.underlying3
 a3 := Tryd.isAgg3
 z3 := Tryd.sizeOf3
 v3 := Tryd.zeroValue3
 t4 := Tryd.underlying4
 a4 := Tryd.isAgg4
 z4 := Tryd.sizeOf4
 v4 := Tryd.zeroValue4
 t5 := Tryd.underlying5
 a5 := Tryd.isAgg5
 z5 := Tryd.sizeOf5
 v5 := Tryd.zeroValue5
 t9 := Tryd.underlying9
 a9 := Tryd.isAgg9
 z9 := Tryd.sizeOf9
 v9 := Tryd.zeroValue9
 t21 := Tryd.underlying21
 a21 := Tryd.isAgg21
 z21 := Tryd.sizeOf21
 v21 := Tryd.zeroValue21
 t46 := Tryd.underlying68
 a46 := Tryd.isAgg68
 z46 := Tryd.sizeOf68
 v46 := Tryd.zeroValue68
 t105 := Tryd.underlying120
 a105 := Tryd.isAgg120
 z105 := Tryd.sizeOf120
 v105 := Tryd.zeroValue120
 t116 := Tryd.underlying99
 a116 := Tryd.isAgg99
 z116 := Tryd.sizeOf99
 t117 := Tryd.underlying100
 a117 := Tryd.isAgg100
 z117 := Tryd.sizeOf100
 v117 := Tryd.zeroValue100
 t119 := Tryd.underlying135
 a119 := Tryd.isAgg135
 z119 := Tryd.sizeOf135
 t124 := Tryd.underlying103
 a124 := Tryd.isAgg103
 z124 := Tryd.sizeOf103
 v124 := Tryd.zeroValue103
 t138 := Tryd.underlying137
 a138 := Tryd.isAgg137
 z138 := Tryd.sizeOf137
 v138 := Tryd.zeroValue137
 t139 := Tryd.underlying138
 a139 := Tryd.isAgg138
 z139 := Tryd.sizeOf138
 v139 := Tryd.zeroValue138
 g3 := by kernel_rfl
 g4 := by kernel_rfl }
def Tryd.lays137_ren : Go.Shelf.Ren := ⟨fun | 137 => 39 | 217 => 50 | 266 => 69 | n => n, fun | 9 => 9 | 5 => 5 | 3 => 3 | n => n, fun | n => n⟩
theorem Tryd.lays137 : Go.Proofs.Lays.n137 Tryd.prog Tryd.lays137_ren := {
 mixed := by kernel_rfl
 f137 := Tryd.func39.trans (congrArg some (by kernel_rfl))
 f217 := Tryd.func50.trans (congrArg some (by kernel_rfl))
 f266 := Tryd.func69.trans (congrArg some (by kernel_rfl))
 t3 := Tryd.underlying3
 a3 := Tryd.isAgg3
 z3 := Tryd.sizeOf3
 v3 := Tryd.zeroValue3
 t5 := Tryd.underlying5
 a5 := Tryd.isAgg5
 z5 := Tryd.sizeOf5
 v5 := Tryd.zeroValue5
 t9 := Tryd.underlying9
 a9 := Tryd.isAgg9
 z9 := Tryd.sizeOf9
 v9 := Tryd.zeroValue9 }
open Go.RowKit in
theorem Tryd.strings_IndexByte (s : ByteArray) (c : Int) (w : World) :
 Calls Tryd.prog 39 #[.string s, .int .u8 c] w fun e w' => e = .returned (.int .i64 (Lib.indexByte s.data.toList c.toNat.toUInt8)) ∧ w' = w := Any.strings_IndexByte Tryd.lays137 s c w
def Tryd.laysM173_ren : Go.Shelf.Ren := ⟨fun | 173 => 31 | 246 => 42 | 283 => 51 | 284 => 52 | 285 => 53 | 286 => 54 | 129 => 71 | 317 => 70 | 318 => 72 | 319 => 73 | 320 => 74 | 337 => 87 | 338 => 88 | n => n, fun | 2 => 2 | 3 => 3 | 9 => 9 | 4 => 4 | 171 => 89 | 0 => 0 | 53 => 90 | 37 => 34 | 5 => 5 | 173 => 93 | 212 => 105 | 51 => 106 | 20 => 20 | 213 => 107 | 46 => 68 | 232 => 130 | 233 => 131 | n => n, fun | 17 => 1 | 18 => 4 | 19 => 5 | n => n⟩
theorem Tryd.laysM173 : Go.Proofs.LaysM.n173 Tryd.prog Tryd.laysM173_ren := {
 mixed := by kernel_rfl
 f129 := Tryd.func71.trans (congrArg some (by kernel_rfl))
 f173 := Tryd.func31.trans (congrArg some (by kernel_rfl))
 f246 := Tryd.func42.trans (congrArg some (by kernel_rfl))
 f283 := Tryd.func51.trans (congrArg some (by kernel_rfl))
 f284 := Tryd.func52.trans (congrArg some (by kernel_rfl))
 f285 := Tryd.func53.trans (congrArg some (by kernel_rfl))
 f286 := Tryd.func54.trans (congrArg some (by kernel_rfl))
 f317 := Tryd.func70.trans (congrArg some (by kernel_rfl))
 f318 := Tryd.func72.trans (congrArg some (by kernel_rfl))
 f319 := Tryd.func73.trans (congrArg some (by kernel_rfl))
 f320 := Tryd.func74.trans (congrArg some (by kernel_rfl))
 f337 := Tryd.func87.trans (congrArg some (by kernel_rfl))
 f338 := Tryd.func88.trans (congrArg some (by kernel_rfl))
 t0 := Tryd.underlying0
 a0 := Tryd.isAgg0
 z0 := Tryd.sizeOf0
 v0 := Tryd.zeroValue0
 t2 := Tryd.underlying2
 a2 := Tryd.isAgg2
 z2 := Tryd.sizeOf2
 v2 := Tryd.zeroValue2
 t3 := Tryd.underlying3
 a3 := Tryd.isAgg3
 z3 := Tryd.sizeOf3
 v3 := Tryd.zeroValue3
 t4 := Tryd.underlying4
 a4 := Tryd.isAgg4
 z4 := Tryd.sizeOf4
 v4 := Tryd.zeroValue4
 t5 := Tryd.underlying5
 a5 := Tryd.isAgg5
 z5 := Tryd.sizeOf5
 v5 := Tryd.zeroValue5
 t9 := Tryd.underlying9
 a9 := Tryd.isAgg9
 z9 := Tryd.sizeOf9
 v9 := Tryd.zeroValue9
 t20 := Tryd.underlying20
 a20 := Tryd.isAgg20
 z20 := Tryd.sizeOf20
 v20 := Tryd.zeroValue20
 t37 := Tryd.underlying34
 a37 := Tryd.isAgg34
 z37 := Tryd.sizeOf34
 v37 := Tryd.zeroValue34
 t46 := Tryd.underlying68
 a46 := Tryd.isAgg68
 z46 := Tryd.sizeOf68
 v46 := Tryd.zeroValue68
 t51 := Tryd.underlying106
 a51 := Tryd.isAgg106
 z51 := Tryd.sizeOf106
 v51 := Tryd.zeroValue106
 t53 := Tryd.underlying90
 a53 := Tryd.isAgg90
 z53 := Tryd.sizeOf90
 v53 := Tryd.zeroValue90
 t171 := Tryd.underlying89
 a171 := Tryd.isAgg89
 z171 := Tryd.sizeOf89
 v171 := Tryd.zeroValue89
 t173 := Tryd.underlying93
 a173 := Tryd.isAgg93
 z173 := Tryd.sizeOf93
 v173 := Tryd.zeroValue93
 t212 := Tryd.underlying105
 a212 := Tryd.isAgg105
 z212 := Tryd.sizeOf105
 v212 := Tryd.zeroValue105
 t213 := Tryd.underlying107
 a213 := Tryd.isAgg107
 z213 := Tryd.sizeOf107
 t232 := Tryd.underlying130
 a232 := Tryd.isAgg130
 z232 := Tryd.sizeOf130
 v232 := Tryd.zeroValue130
 t233 := Tryd.underlying131
 a233 := Tryd.isAgg131
 z233 := Tryd.sizeOf131
 v233 := Tryd.zeroValue131
 g17 := by kernel_rfl
 g18 := by kernel_rfl
 g19 := by kernel_rfl
 i0 := by kernel_rfl
 i2 := by kernel_rfl
 i3 := by kernel_rfl
 i4 := by kernel_rfl
 i5 := by kernel_rfl
 i9 := by kernel_rfl
 i20 := by kernel_rfl
 i37 := by kernel_rfl
 i46 := by kernel_rfl
 i51 := by kernel_rfl
 i53 := by kernel_rfl
 i171 := by kernel_rfl
 i173 := by kernel_rfl
 i212 := by kernel_rfl
 i232 := by kernel_rfl
 i233 := by kernel_rfl
 m17 := by kernel_rfl
 m18 := by kernel_rfl
 m19 := by kernel_rfl }
open Go.RowKit Go.Sort Go.Lib in
theorem Tryd.strconv_FormatInt_10 (n : Int) (h0 : -9223372036854775808 ≤ n) (h1 : n ≤ 9223372036854775807) (w : World) (htab : Lib.TabIs Tryd.prog w "internal/strconv.uint64pow10" .u64 Lib.pow10Tab) :
 Calls Tryd.prog 31 #[.int .i64 n, .int .i64 10] w fun e w' => e = .returned (.string ⟨(Lib.itoa n).toArray⟩) ∧ ∃ k os, w' = grow (w.drewN k) os := Any.strconv_FormatInt_10 Tryd.laysM173 n h0 h1 w htab
def Tryd.laysC174_ren : Go.Shelf.Ren := ⟨fun | 174 => 48 | 247 => 60 | 245 => 61 | 287 => 78 | 279 => 79 | 280 => 80 | 281 => 81 | 282 => 82 | 321 => 89 | 322 => 90 | 316 => 91 | 171 => 93 | 205 => 92 | 243 => 97 | 246 => 42 | 283 => 51 | 284 => 52 | 285 => 53 | 286 => 54 | 129 => 71 | 317 => 70 | 318 => 72 | 319 => 73 | 320 => 74 | 337 => 87 | 338 => 88 | n => n, fun | 9 => 9 | 3 => 3 | 2 => 2 | 75 => 50 | 85 => 86 | 4 => 4 | 167 => 113 | 5 => 5 | 53 => 90 | 175 => 114 | 46 => 68 | 168 => 116 | 37 => 34 | 0 => 0 | 210 => 127 | 21 => 21 | 127 => 70 | 145 => 134 | 143 => 132 | 171 => 89 | 173 => 93 | 212 => 105 | 51 => 106 | 20 => 20 | 213 => 107 | 232 => 130 | 233 => 131 | 80 => 55 | n => n, fun | 15 => 2 | 16 => 3 | 17 => 1 | 18 => 4 | 19 => 5 | n => n⟩
theorem Tryd.laysC174 : Go.Proofs.LaysC.n174 Tryd.prog Tryd.laysC174_ren := {
 mixed := by kernel_rfl
 f129 := Tryd.func71.trans (congrArg some (by kernel_rfl))
 f171 := Tryd.func93.trans (congrArg some (by kernel_rfl))
 f174 := Tryd.func48.trans (congrArg some (by kernel_rfl))
 f205 := Tryd.func92.trans (congrArg some (by kernel_rfl))
 f243 := Tryd.func97.trans (congrArg some (by kernel_rfl))
 f245 := Tryd.func61.trans (congrArg some (by kernel_rfl))
 f246 := Tryd.func42.trans (congrArg some (by kernel_rfl))
 f247 := Tryd.func60.trans (congrArg some (by kernel_rfl))
 f279 := Tryd.func79.trans (congrArg some (by kernel_rfl))
 f280 := Tryd.func80.trans (congrArg some (by kernel_rfl))
 f281 := Tryd.func81.trans (congrArg some (by kernel_rfl))
 f282 := Tryd.func82.trans (congrArg some (by kernel_rfl))
 f283 := Tryd.func51.trans (congrArg some (by kernel_rfl))
 f284 := Tryd.func52.trans (congrArg some (by kernel_rfl))
 f285 := Tryd.func53.trans (congrArg some (by kernel_rfl))
 f286 := Tryd.func54.trans (congrArg some (by kernel_rfl))
 f287 := Tryd.func78.trans (congrArg some (by kernel_rfl))
 f316 := Tryd.func91.trans (congrArg some (by kernel_rfl))
 f317 := Tryd.func70.trans (congrArg some (by kernel_rfl))
 f318 := Tryd.func72.trans (congrArg some (by kernel_rfl))
 f319 := Tryd.func73.trans (congrArg some (by kernel_rfl))
 f320 := Tryd.func74.trans (congrArg some (by kernel_rfl))
 f321 := Tryd.func89.trans (congrArg some (by kernel_rfl))
 f322 := Tryd.func90.trans (congrArg some (by kernel_rfl))
 f337 := Tryd.func87.trans (congrArg some (by kernel_rfl))
 f338 := Tryd.func88.trans (congrArg some (by kernel_rfl))
 t0 := Tryd.underlying0
 a0 := Tryd.isAgg0
 z0 := Tryd.sizeOf0
 v0 := Tryd.zeroValue0
 t2 := Tryd.underlying2
 a2 := Tryd.isAgg2
 z2 := Tryd.sizeOf2
 v2 := Tryd.zeroValue2
 t3 := Tryd.underlying3
 a3 := Tryd.isAgg3
 z3 := Tryd.sizeOf3
 v3 := Tryd.zeroValue3
 t4 := Tryd.underlying4
 a4 := Tryd.isAgg4
 z4 := Tryd.sizeOf4
 v4 := Tryd.zeroValue4
 t5 := Tryd.underlying5
 a5 := Tryd.isAgg5
 z5 := Tryd.sizeOf5
 v5 := Tryd.zeroValue5
 t9 := Tryd.underlying9
 a9 := Tryd.isAgg9
 z9 := Tryd.sizeOf9
 v9 := Tryd.zeroValue9
 t20 := Tryd.underlying20
 a20 := Tryd.isAgg20
 z20 := Tryd.sizeOf20
 v20 := Tryd.zeroValue20
 t21 := Tryd.underlying21
 a21 := Tryd.isAgg21
 z21 := Tryd.sizeOf21
 v21 := Tryd.zeroValue21
 t37 := Tryd.underlying34
 a37 := Tryd.isAgg34
 z37 := Tryd.sizeOf34
 v37 := Tryd.zeroValue34
 t46 := Tryd.underlying68
 a46 := Tryd.isAgg68
 z46 := Tryd.sizeOf68
 v46 := Tryd.zeroValue68
 t51 := Tryd.underlying106
 a51 := Tryd.isAgg106
 z51 := Tryd.sizeOf106
 v51 := Tryd.zeroValue106
 t53 := Tryd.underlying90
 a53 := Tryd.isAgg90
 z53 := Tryd.sizeOf90
 v53 := Tryd.zeroValue90
 t75 := Tryd.underlying50
 a75 := Tryd.isAgg50
 z75 := Tryd.sizeOf50
 v75 := Tryd.zeroValue50
 t85 := Tryd.underlying86
 a85 := Tryd.isAgg86
 z85 := Tryd.sizeOf86
 v85 := Tryd.zeroValue86
 t127 := Tryd.underlying70
 a127 := Tryd.isAgg70
 z127 := Tryd.sizeOf70
 v127 := Tryd.zeroValue70
 t143 := Tryd.underlying132
 a143 := Tryd.isAgg132
 z143 := Tryd.sizeOf132
 v143 := Tryd.zeroValue132
 t145 := Tryd.underlying134
 a145 := Tryd.isAgg134
 z145 := Tryd.sizeOf134
 v145 := Tryd.zeroValue134
 t167 := Tryd.underlying113
 a167 := Tryd.isAgg113
 z167 := Tryd.sizeOf113
 v167 := Tryd.zeroValue113
 t168 := Tryd.underlying116
 a168 := Tryd.isAgg116
 z168 := Tryd.sizeOf116
 v168 := Tryd.zeroValue116
 t171 := Tryd.underlying89
 a171 := Tryd.isAgg89
 z171 := Tryd.sizeOf89
 v171 := Tryd.zeroValue89
 t173 := Tryd.underlying93
 a173 := Tryd.isAgg93
 z173 := Tryd.sizeOf93
 v173 := Tryd.zeroValue93
 t175 := Tryd.underlying114
 a175 := Tryd.isAgg114
 z175 := Tryd.sizeOf114
 v175 := Tryd.zeroValue114
 t210 := Tryd.underlying127
 a210 := Tryd.isAgg127
 z210 := Tryd.sizeOf127
 v210 := Tryd.zeroValue127
 t212 := Tryd.underlying105
 a212 := Tryd.isAgg105
 z212 := Tryd.sizeOf105
 v212 := Tryd.zeroValue105
 t213 := Tryd.underlying107
 a213 := Tryd.isAgg107
 z213 := Tryd.sizeOf107
 t232 := Tryd.underlying130
 a232 := Tryd.isAgg130
 z232 := Tryd.sizeOf130
 v232 := Tryd.zeroValue130
 t233 := Tryd.underlying131
 a233 := Tryd.isAgg131
 z233 := Tryd.sizeOf131
 v233 := Tryd.zeroValue131
 g15 := by kernel_rfl
 g16 := by kernel_rfl
 g17 := by kernel_rfl
 g18 := by kernel_rfl
 g19 := by kernel_rfl
 t80 := Tryd.underlying55
 a80 := Tryd.isAgg55
 z80 := Tryd.sizeOf55
 v80 := Tryd.zeroValue55
 i0 := by kernel_rfl
 i2 := by kernel_rfl
 i3 := by kernel_rfl
 i4 := by kernel_rfl
 i5 := by kernel_rfl
 i9 := by kernel_rfl
 i20 := by kernel_rfl
 i21 := by kernel_rfl
 i37 := by kernel_rfl
 i46 := by kernel_rfl
 i51 := by kernel_rfl
 i53 := by kernel_rfl
 i75 := by kernel_rfl
 i80 := by kernel_rfl
 i85 := by kernel_rfl
 i127 := by kernel_rfl
 i143 := by kernel_rfl
 i145 := by kernel_rfl
 i167 := by kernel_rfl
 i168 := by kernel_rfl
 i171 := by kernel_rfl
 i173 := by kernel_rfl
 i175 := by kernel_rfl
 i210 := by kernel_rfl
 i212 := by kernel_rfl
 i232 := by kernel_rfl
 i233 := by kernel_rfl
 m15 := by kernel_rfl
 m16 := by kernel_rfl
 m17 := by kernel_rfl
 m18 := by kernel_rfl
 m19 := by kernel_rfl
 c0 := by kernel_rfl
 c2 := by kernel_rfl
 c3 := by kernel_rfl
 c4 := by kernel_rfl
 c5 := by kernel_rfl
 c9 := by kernel_rfl
 c20 := by kernel_rfl
 c21 := by kernel_rfl
 c37 := by kernel_rfl
 c46 := by kernel_rfl
 c51 := by kernel_rfl
 c53 := by kernel_rfl
 c75 := by kernel_rfl
 c80 := by kernel_rfl
 c85 := by kernel_rfl
 c127 := by kernel_rfl
 c143 := by kernel_rfl
 c145 := by kernel_rfl
 c167 := by kernel_rfl
 c168 := by kernel_rfl
 c171 := by kernel_rfl
 c173 := by kernel_rfl
 c175 := by kernel_rfl
 c210 := by kernel_rfl
 c212 := by kernel_rfl
 c213 := by kernel_rfl
 c232 := by kernel_rfl
 c233 := by kernel_rfl }
open Go.RowKit in
theorem Tryd.strconv_ParseInt_10_at64_ok (s : ByteArray) (hmax : s.size ≤ 9223372036854775806) (v : Int) (h : Lib.parseIntB 64 s.data.toList = .ok v) (w : World) :
 Calls Tryd.prog 48 #[.string s, .int .i64 10, .int .i64 64] w fun e w' => e = .returned (.tuple #[.int .i64 v, .nilIface]) ∧ (w' = w ∨ ∃ t, w' = Lib.bytesWorld w 5 t) := Any.strconv_ParseInt_10_at64_ok Tryd.laysC174 s hmax v h w
open Go.RowKit in
theorem Tryd.strconv_ParseInt_10_at64_syntax_var (s : ByteArray) (hlim : s.size ≤ 281474976710656) (h : Lib.parseIntB 64 s.data.toList = Lib.NumEnd.syntax) (tp : TypeId) (p : Value) (w : World) (hvar : w.var? Tryd.prog "strconv.ErrSyntax" = some #[.iface tp p]) :
 Calls Tryd.prog 48 #[.string s, .int .i64 10, .int .i64 64] w fun e w' => ∃ N, e = .returned (.tuple #[.int .i64 (0), .iface 116 (.pointer (some ⟨N, 0, none⟩))]) ∧ w.heap.size ≤ N ∧ w'.heap[N]? = some (.cells #[.string ⟨#[80, 97, 114, 115, 101, 73, 110, 116]⟩, .string s, .iface tp p] 127 (0, 0)) ∧ Below w.heap.size w w' := Any.strconv_ParseInt_10_at64_syntax_var Tryd.laysC174 s hlim h tp p w hvar
open Go.RowKit in
theorem Tryd.strconv_ParseInt_10_at64_range_var (s : ByteArray) (hlim : s.size ≤ 281474976710656) (h : Lib.parseIntB 64 s.data.toList = .range) (tp : TypeId) (p : Value) (w : World) (hvar : w.var? Tryd.prog "strconv.ErrRange" = some #[.iface tp p]) :
 Calls Tryd.prog 48 #[.string s, .int .i64 10, .int .i64 64] w fun e w' => ∃ N, e = .returned (.tuple #[.int .i64 (Lib.intSat 64 s.data.toList), .iface 116 (.pointer (some ⟨N, 0, none⟩))]) ∧ w.heap.size ≤ N ∧ w'.heap[N]? = some (.cells #[.string ⟨#[80, 97, 114, 115, 101, 73, 110, 116]⟩, .string s, .iface tp p] 127 (0, 0)) ∧ Below w.heap.size w w' := Any.strconv_ParseInt_10_at64_range_var Tryd.laysC174 s hlim h tp p w hvar
def Tryd.lays145_ren : Go.Shelf.Ren := ⟨fun | 145 => 21 | 220 => 34 | 219 => 45 | 217 => 50 | 225 => 56 | 224 => 57 | 267 => 58 | 266 => 69 | 314 => 76 | n => n, fun | 9 => 9 | 4 => 4 | 59 => 56 | 3 => 3 | 5 => 5 | 46 => 68 | 146 => 111 | 51 => 106 | n => n, fun | 1 => 0 | n => n⟩
theorem Tryd.lays145 : Go.Proofs.Lays.n145 Tryd.prog Tryd.lays145_ren := {
 mixed := by kernel_rfl
 f145 := Tryd.func21.trans (congrArg some (by kernel_rfl))
 f217 := Tryd.func50.trans (congrArg some (by kernel_rfl))
 f219 := Tryd.func45.trans (congrArg some (by kernel_rfl))
 f220 := Tryd.func34.trans (congrArg some (by kernel_rfl))
 f224 := Tryd.func57.trans (congrArg some (by kernel_rfl))
 f225 := Tryd.func56.trans (congrArg some (by kernel_rfl))
 f266 := Tryd.func69.trans (congrArg some (by kernel_rfl))
 f267 := Tryd.func58.trans (congrArg some (by kernel_rfl))
 f314 := Tryd.func76.trans (congrArg some (by kernel_rfl))
 t3 := Tryd.underlying3
 a3 := Tryd.isAgg3
 z3 := Tryd.sizeOf3
 v3 := Tryd.zeroValue3
 t4 := Tryd.underlying4
 a4 := Tryd.isAgg4
 z4 := Tryd.sizeOf4
 v4 := Tryd.zeroValue4
 t5 := Tryd.underlying5
 a5 := Tryd.isAgg5
 z5 := Tryd.sizeOf5
 v5 := Tryd.zeroValue5
 t9 := Tryd.underlying9
 a9 := Tryd.isAgg9
 z9 := Tryd.sizeOf9
 v9 := Tryd.zeroValue9
 t46 := Tryd.underlying68
 a46 := Tryd.isAgg68
 z46 := Tryd.sizeOf68
 v46 := Tryd.zeroValue68
 t51 := Tryd.underlying106
 a51 := Tryd.isAgg106
 z51 := Tryd.sizeOf106
 v51 := Tryd.zeroValue106
 t59 := Tryd.underlying56
 a59 := Tryd.isAgg56
 z59 := Tryd.sizeOf56
 v59 := Tryd.zeroValue56
 t146 := Tryd.underlying111
 a146 := Tryd.isAgg111
 z146 := Tryd.sizeOf111
 v146 := Tryd.zeroValue111
 g1 := by kernel_rfl }
open Go.RowKit Go.Lib in
theorem Tryd.strings_Cut (s sep : ByteArray) (m : Int) (w : World) (hs : s.size < 4294967281) (hm : w.cell? ⟨0, 0, none⟩ = some (.int .i64 m)) :
 Calls Tryd.prog 21 #[.string s, .string sep] w fun e w' => e = .returned (.tuple #[.string ⟨(Lib.cut s.data.toList sep.data.toList).1.toArray⟩, .string ⟨(Lib.cut s.data.toList sep.data.toList).2.1.toArray⟩, .bool (Lib.cut s.data.toList sep.data.toList).2.2]) ∧ ∃ n, w' = w.drewN n := Any.strings_Cut Tryd.lays145 s sep m w hs hm
open Go.RowKit in
theorem Tryd.strings_Trim_laid (s cutset : ByteArray) (w : World) (hs : s.size ≤ 9223372036854775807) (hcs : cutset.size < 4294967281) (hascii : ∀ (j : Nat) b, cutset.data.toList[j]? = some b → b.toNat < 128) :
 Calls Tryd.prog 49 #[.string s, .string cutset] w fun e w' => e = .returned (.string ⟨(Lib.trimS s.data.toList cutset.data.toList).toArray⟩) ∧ Below w.heap.size w w' := Any.strings_Trim_laid Tryd.lays160 (by kernel_rfl) s cutset w hs hcs hascii
end Go.Proofs
end
section
namespace Go.Proofs
open Go.Shelf
def Tryd.laysW167_ren : Go.Shelf.Ren := ⟨fun | 167 => 19 | 240 => 32 | 276 => 43 | n => n, fun | 0 => 0 | 3 => 3 | 4 => 4 | 5 => 5 | 9 => 9 | 20 => 20 | 31 => 47 | 37 => 34 | 70 => 38 | 72 => 40 | 75 => 50 | 76 => 51 | 80 => 55 | 127 => 70 | 164 => 80 | n => n, fun | n => n⟩
theorem Tryd.laysW167 : Go.Proofs.Lays.n167 Tryd.prog Tryd.laysW167_ren := {
 mixed := by kernel_rfl
 f167 := Tryd.func19.trans (congrArg some (by kernel_rfl))
 f240 := Tryd.func32.trans (congrArg some (by kernel_rfl))
 f276 := Tryd.func43.trans (congrArg some (by kernel_rfl))
 t0 := Tryd.underlying0
 a0 := Tryd.isAgg0
 z0 := Tryd.sizeOf0
 v0 := Tryd.zeroValue0
 t4 := Tryd.underlying4
 a4 := Tryd.isAgg4
 z4 := Tryd.sizeOf4
 v4 := Tryd.zeroValue4
 t5 := Tryd.underlying5
 a5 := Tryd.isAgg5
 z5 := Tryd.sizeOf5
 v5 := Tryd.zeroValue5
 t9 := Tryd.underlying9
 a9 := Tryd.isAgg9
 z9 := Tryd.sizeOf9
 v9 := Tryd.zeroValue9
 t20 := Tryd.underlying20
 a20 := Tryd.isAgg20
 z20 := Tryd.sizeOf20
 v20 := Tryd.zeroValue20
 t37 := Tryd.underlying34
 a37 := Tryd.isAgg34
 z37 := Tryd.sizeOf34
 v37 := Tryd.zeroValue34
 t70 := Tryd.underlying38
 a70 := Tryd.isAgg38
 z70 := Tryd.sizeOf38
 v70 := Tryd.zeroValue38
 t72 := Tryd.underlying40
 a72 := Tryd.isAgg40
 z72 := Tryd.sizeOf40
 v72 := Tryd.zeroValue40
 t75 := Tryd.underlying50
 a75 := Tryd.isAgg50
 z75 := Tryd.sizeOf50
 v75 := Tryd.zeroValue50
 t164 := Tryd.underlying80
 a164 := Tryd.isAgg80
 z164 := Tryd.sizeOf80
 v164 := Tryd.zeroValue80 }
theorem Tryd.Builder_ExtraW167 : Builder.Extra Tryd.prog Tryd.laysW167_ren := {
 sizeBuilder := by kernel_rfl
 liesBuilder := by kernel_rfl
 t5 := Tryd.underlying5
 a5 := Tryd.isAgg5
 z5 := Tryd.sizeOf5
 v5 := Tryd.zeroValue5
 infoByte := by kernel_rfl
 cellsByte := by kernel_rfl
 sizeByte := by kernel_rfl
 neB5 := by decide }
def Tryd.laysW166_ren : Go.Shelf.Ren := ⟨fun | 166 => 17 | 240 => 32 | 276 => 43 | n => n, fun | 0 => 0 | 3 => 3 | 4 => 4 | 5 => 5 | 9 => 9 | 20 => 20 | 31 => 47 | 37 => 34 | 70 => 38 | 72 => 40 | 75 => 50 | 76 => 51 | 80 => 55 | 127 => 70 | 164 => 80 | n => n, fun | n => n⟩
theorem Tryd.laysW166 : Go.Proofs.Lays.n166 Tryd.prog Tryd.laysW166_ren := {
 mixed := by kernel_rfl
 f166 := Tryd.func17.trans (congrArg some (by kernel_rfl))
 f240 := Tryd.func32.trans (congrArg some (by kernel_rfl))
 f276 := Tryd.func43.trans (congrArg some (by kernel_rfl))
 t0 := Tryd.underlying0
 a0 := Tryd.isAgg0
 z0 := Tryd.sizeOf0
 v0 := Tryd.zeroValue0
 t3 := Tryd.underlying3
 a3 := Tryd.isAgg3
 z3 := Tryd.sizeOf3
 v3 := Tryd.zeroValue3
 t4 := Tryd.underlying4
 a4 := Tryd.isAgg4
 z4 := Tryd.sizeOf4
 v4 := Tryd.zeroValue4
 t9 := Tryd.underlying9
 a9 := Tryd.isAgg9
 z9 := Tryd.sizeOf9
 v9 := Tryd.zeroValue9
 t20 := Tryd.underlying20
 a20 := Tryd.isAgg20
 z20 := Tryd.sizeOf20
 v20 := Tryd.zeroValue20
 t37 := Tryd.underlying34
 a37 := Tryd.isAgg34
 z37 := Tryd.sizeOf34
 v37 := Tryd.zeroValue34
 t70 := Tryd.underlying38
 a70 := Tryd.isAgg38
 z70 := Tryd.sizeOf38
 v70 := Tryd.zeroValue38
 t72 := Tryd.underlying40
 a72 := Tryd.isAgg40
 z72 := Tryd.sizeOf40
 v72 := Tryd.zeroValue40
 t75 := Tryd.underlying50
 a75 := Tryd.isAgg50
 z75 := Tryd.sizeOf50
 v75 := Tryd.zeroValue50
 t164 := Tryd.underlying80
 a164 := Tryd.isAgg80
 z164 := Tryd.sizeOf80
 v164 := Tryd.zeroValue80 }
theorem Tryd.Builder_ExtraW166 : Builder.Extra Tryd.prog Tryd.laysW166_ren := {
 sizeBuilder := by kernel_rfl
 liesBuilder := by kernel_rfl
 t5 := Tryd.underlying5
 a5 := Tryd.isAgg5
 z5 := Tryd.sizeOf5
 v5 := Tryd.zeroValue5
 infoByte := by kernel_rfl
 cellsByte := by kernel_rfl
 sizeByte := by kernel_rfl
 neB5 := by decide }
open Go.RowKit in
theorem Tryd.Builder_WriteByte (B b : Nat) (bs : List Value) (c : Int) (w : World) (h : Lib.IsBuilder 40 5 B b bs w) (hlen : bs.length + 1 ≤ 140737488355328) (hBw : B ≤ w.heap.size) :
 Calls Tryd.prog 19 #[.pointer (some ⟨b, 0, none⟩), .int .u8 c] w fun e w' => e = .returned .nilIface ∧ (Lib.BuilderAt 40 5 B b (.pointer (some ⟨b, 0, none⟩)) (bs ++ [.int .u8 c]) w' ∧ Below B w w') := Any.Builder_WriteByte Tryd.laysW167 Tryd.Builder_ExtraW167 B b bs c w h hlen hBw
open Go.RowKit in
theorem Tryd.Builder_WriteString (B b : Nat) (bs : List Value) (s : ByteArray) (w : World) (h : Lib.IsBuilder 40 5 B b bs w) (hlen : bs.length + s.size ≤ 140737488355328) (hBw : B ≤ w.heap.size) :
 Calls Tryd.prog 17 #[.pointer (some ⟨b, 0, none⟩), .string s] w fun e w' => e = .returned (.tuple #[.int .i64 s.size, .nilIface]) ∧ (Lib.BuilderAt 40 5 B b (.pointer (some ⟨b, 0, none⟩)) (bs ++ Lib.strCells s) w' ∧ Below B w w') := Any.Builder_WriteString Tryd.laysW166 Tryd.Builder_ExtraW166 B b bs s w h hlen hBw
end Go.Proofs
end
section
namespace Go.Proofs.YtkplklfmhieoaaaDoor.X
theorem handed_shaped {H : Type} {enc : TypeId × Value → H} {a : Assume} {C : Checked} {os : Os} {f : FuncId} {fn : Func} {s : ChangeSpec} {conds : List PathCond} {apart fresh handsOn again : Bool} {X : World → Array Value → Prop}
 (hX : ∀ (w w' : World) (args : Array Value), w.heap = w'.heap → X w args → X w' args)
 (own : ownKnob C.prog.godebug = none) (started : os.Started) (noInit : C.prog.inits.idxOf? f = none) (hfn : C.prog.funcs[f]? = some fn)
 (witness : ∃ (w : World) (tape : Tape) (i : Input), w.os = os ∧ (w.forCall tape i).Shaped C.prog ∧ i.vars = [] ∧ Input.okWide C.prog (w.forCall tape i) .any w.heap.size f i ∧
  ((s.pre enc C.prog fn conds apart (w.forCall tape i).memory i.args ∧ X (w.forCall tape i).memory i.args) ∧ sizedMet enc C.prog fn (OpenSpec.ofChange s) apart (w.forCall tape i).memory i.args) ∧ a.holds C.prog (lone (Frame.enter C.prog f i.args .normal) [] (w.forCall tape i)))
 (contract : ∀ (W : World) (base : Nat) (args : Array Value) (ds gs : List (DataW H)) (before : List MemPlace),
  (∀ (j : Nat) t v, fn.params[j]? = some t → args[j]? = some v → Value.okWide C.prog W .any base t v) →
  DataW.Whole enc C.prog fn.params.toList s.vars apart W args.toList ds gs before →
  conds.all (PathCond.test C.prog ⟨fn.params.toList, ds, s.plain.varTypes C.prog, gs⟩) = true →
  (DataW.weightsEach C.prog (fn.params.toList ++ s.plain.varTypes C.prog) (ds ++ gs)).all (· ≤ reachBytes) = true → X W args → W.ShapedOpen C.prog →
  a.holds C.prog (lone (Frame.enter C.prog f args .normal) [] W) →
  Calls C.prog f args W fun e W' => ∃ v, e = .returned v ∧ s.post enc C.prog fn apart fresh handsOn again W args v W') :
 ReturnsInHanded a C os f .any (fun w args => (s.pre enc C.prog fn conds apart w args ∧ X w args) ∧ sizedMet enc C.prog fn (OpenSpec.ofChange s) apart w args) (s.post enc C.prog fn apart fresh handsOn again) := by
 refine returnsInHanded_of_calls own started noInit witness ?_
 intro w tape i _ hsh _ hok hpre hholds
 obtain ⟨_, _, _, fn', hfn', _, _, _, _, hval⟩ := hok
 have e : fn' = fn := Option.some.inj (hfn'.symm.trans hfn)
 subst e
 obtain ⟨⟨⟨ds, gs, before, hw, hc⟩, hx⟩, hz⟩ := hpre
 have hw' := DataW.Whole.of_heap (w' := w.forCall tape i) (by rfl) hw
 refine (contract (w.forCall tape i) w.heap.size i.args ds gs before hval hw' hc (hz.weights hw) (hX _ _ _ (by rfl) hx) hsh hholds).mono fun e W' ⟨v, he, hp⟩ => ?_
 subst he
 exact ChangeSpec.post_blind hp
end Go.Proofs.YtkplklfmhieoaaaDoor.X
end
