/- Words of the printed texts, joined. No condition of its own. -/
import Derived.Test.YtgcbejidponoaaaGreatDoorM3
section
namespace Go.Proofs.YtgcbejidponoaaaGreatDoor.X
open Go.RowKit Go.Proofs.YtgcbejidponoaaaGreatDoorW.PrintWords Go.Proofs.YtgcbejidponoaaaGreatDoorW.PrintLast Go.Proofs.YtgcbejidponoaaaGreatDoorW.PrintMore
def Q43 (x : S43) : Prop := ((Lit.int .i64 x.f0).wf = true) ∧ (True)
def Q45 (x : S45) : Prop := ((Lit.int .i64 x.f0).wf = true) ∧ (x.f1.size ≤ 140737488351232) ∧ (Q43 x.f2)
def Q48 (x : S48) : Prop := (Q45 x.f0) ∧ (True)
end Go.Proofs.YtgcbejidponoaaaGreatDoor.X
end
