/- PROVED: closed facts of this program for the row of RelationNil, a piece at a time. No condition. -/
import Derived.Test.YtlkgcnpimnambaaGreatDoorQe
import Derived.Test.YtlkgcnpimnambaaGreatDoorProg
import Derived.KernelRfl
namespace Go.Reach
open Go Go.Proofs
theorem mayEnter_ok : Tryz.prog.mayEnter = true := by kernel_rfl
end Go.Reach
