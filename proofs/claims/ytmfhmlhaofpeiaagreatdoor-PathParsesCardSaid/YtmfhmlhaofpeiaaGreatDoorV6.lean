/- From the reading of an argument to the chapter's structs. Printed by encg.py, a program of this session's. -/
import Derived.Test.YtmfhmlhaofpeiaaGreatDoorV0
import Derived.Test.YtmfhmlhaofpeiaaGreatDoorOp
namespace Go.Proofs.YtmfhmlhaofpeiaaGreatDoor.Ev
open Go Go.RowKit
theorem opnV_9 (m : Nat) : OpV Tryz.prog 9 AV.s (fun s => s.length ≤ 140737488351232) m := OpV.string m Tryz.underlying9 (by kernel_rfl)
end Go.Proofs.YtmfhmlhaofpeiaaGreatDoor.Ev
