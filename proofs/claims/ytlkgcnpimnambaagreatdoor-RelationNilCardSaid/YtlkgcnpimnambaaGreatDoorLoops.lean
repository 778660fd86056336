/- PROVED: closed facts of this program for the row of RelationNil, a piece at a time. No condition. -/
import Derived.Test.YtlkgcnpimnambaaGreatDoorRows
import Derived.JoinedOf
namespace Go.Proofs.YtlkgcnpimnambaaGreatDoor
set_option maxRecDepth 100000 in
theorem loops_ok : (Rows.relationNilRow.loops == (Tryz.f3.params.toList ++ Rows.relationNilSpec.plain.varTypes Tryz.prog).any (Tryz.prog.loopsFrom ·)) = true := by kernel_rfl
end Go.Proofs.YtlkgcnpimnambaaGreatDoor
