/- PROVED: a start that meets the row's conditions (its closed facts). No condition. -/
import Derived.Test.YtlkgcnpimnambaaGreatDoorCalls
import Derived.Test.YtlkgcnpimnambaaGreatDoorRows
import Derived.ProofKit
import Derived.Lay
import Derived.LaidMore
import Derived.SevenTiedAt
namespace Go.Proofs.YtlkgcnpimnambaaGreatDoor
open Go.ChangeShapes Go.WideShapes Go.ChangeAt Go.RowKit
set_option maxRecDepth 100000
noncomputable def zeroOf (t : TypeId) : Value := ((Tryz.prog.info? t).bind (·.zero)).getD undef
noncomputable def laid0 (os : Os) : World := World.laidAll Tryz.prog os Rows.relationNilRow.laid
noncomputable def args0 : Array Value := #[zeroOf 61, zeroOf 37]
noncomputable def start0 (os : Os) : World := (laid0 os).forCall (fun _ _ => 0) { blocks := #[], args := args0 }
theorem z3 (os : Os) : Input.okWideB Tryz.prog (start0 os) 3 { blocks := #[], args := args0 } = true := by kernel_rfl
theorem z4 (os : Os) (H : Type) (enc : TypeId × Value → H) : ChangeSpec.preB enc Tryz.prog Tryz.f3 Rows.relationNilSpec [] false (start0 os).memory args0 8 = true := by kernel_rfl
theorem z5 (os : Os) (H : Type) (enc : TypeId × Value → H) : ChangeSpec.sizedB enc Tryz.prog Tryz.f3 Rows.relationNilSpec false (start0 os).memory args0 8 = true := by kernel_rfl
theorem z6 : (Rows.relationNilRow.laid.all fun x => x.snd.handleName?.isNone) = true := by kernel_rfl
theorem z9 : Tryz.prog.inits.idxOf? 3 = none := by kernel_rfl
end Go.Proofs.YtlkgcnpimnambaaGreatDoor
