/- PROVED: a start that meets the row's conditions (its closed facts). No condition. -/
import Derived.Test.YtlkgcnpimnambaaGreatDoorStartA
import Derived.Test.YtlkgcnpimnambaaGreatDoorRows
import Derived.ProofKit
import Derived.Lay
import Derived.LaidMore
import Derived.SevenTiedAt
namespace Go.Proofs.YtlkgcnpimnambaaGreatDoor
open Go.ChangeShapes Go.WideShapes Go.ChangeAt Go.RowKit
set_option maxRecDepth 100000
theorem z8 (os : Os) : World.layIfaces Tryz.prog (World.holding Tryz.prog os { blocks := #[], args := #[] }) Rows.relationNilRow.laid (World.laidAll Tryz.prog os Rows.relationNilRow.laid) = true := by kernel_rfl
end Go.Proofs.YtlkgcnpimnambaaGreatDoor
