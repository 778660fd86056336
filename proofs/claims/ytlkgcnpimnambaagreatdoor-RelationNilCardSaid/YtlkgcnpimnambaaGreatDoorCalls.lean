/- PROVED: RelationNil called with any two structs of one-cell parts returns true and changes nothing that was there. No condition. -/
import Derived.Test.YtlkgcnpimnambaaGreatDoorQd
import Derived.Test.YtlkgcnpimnambaaGreatDoorKW22
import Derived.Test.YtlkgcnpimnambaaGreatDoorProg
namespace Go.Proofs.YtlkgcnpimnambaaGreatDoor
open Go.RowKit
/-- the call: whatever the two arguments hold -/
theorem nil_calls {cs ds : Array Value} (hc : cs.size = 175) (hd : ds.size = 24) (h1 : ∀ v ∈ cs, Go.Abs.oneV v = true) (h2 : ∀ v ∈ ds, Go.Abs.oneV v = true) (w : World) :
    Calls Tryz.prog 3 #[.agg cs, .agg ds] w fun e w' => e = .returned (.bool true) ∧ Below w.heap.size w w' :=
  Go.Abs.true_of_run (K := [Go.Abs.KW22]) (Go.Abs.kcons Go.Abs.KW22_ok (Go.Abs.knil _)) (by kernel_rfl) (n := 100000) (args := [.agg (Go.Abs.rep 175 [.raw]), .agg (Go.Abs.rep 24 [.raw])]) (args' := [.agg cs, .agg ds]) (by kernel_rfl) (by kernel_rfl)
    (.cons _ _ _ _ (Go.Abs.raw_agg hc h1) (.cons _ _ _ _ (Go.Abs.raw_agg hd h2) .nil)) w
end Go.Proofs.YtlkgcnpimnambaaGreatDoor
