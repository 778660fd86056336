/- PROVED: closed facts of this program for the row of RelationNil, a piece at a time. No condition. -/
import Derived.Test.YtlkgcnpimnambaaGreatDoorReach
import Derived.Test.YtlkgcnpimnambaaGreatDoorTypes
import Derived.Test.YtlkgcnpimnambaaGreatDoorEnter
import Derived.Test.YtlkgcnpimnambaaGreatDoorLoops
import Derived.Test.YtlkgcnpimnambaaGreatDoorRows
import Derived.JoinedOf
namespace Go.Proofs.YtlkgcnpimnambaaGreatDoor
open Go.Reach
theorem e1 : (Rows.relationNilRow.inPlace == Tryz.prog.inPlace 3) = true := by rw [inPlace3]; exact beq_self_eq_true (α := List String) _
theorem e2 : (Rows.relationNilRow.named == Tryz.prog.varsNamed 3) = true := by rw [varsNamed3]; exact beq_self_eq_true (α := List String) _
set_option maxRecDepth 100000 in
theorem facts : joinedFacts Tryz.prog 3 Tryz.f3 Rows.relationNilSpec Rows.relationNilRow = true := by
  unfold joinedFacts
  rw [e1, e2, unfollowed3, recurses3, laidOut_ok, mapsRowed_ok, plainKeys_ok, stopsHeard_ok, mayEnter_ok, loops_ok]
  kernel_rfl
end Go.Proofs.YtlkgcnpimnambaaGreatDoor
