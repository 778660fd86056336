/- PROVED: loupelaw22.RelationNil: for every act and every query the law returns true, and both read behind the call as before; the tied card. No condition but the row's own: the listed library variables read as the program's text lays them. -/
import Derived.Test.YtlkgcnpimnambaaGreatDoorLift
import Derived.Test.YtlkgcnpimnambaaGreatDoorCards
import Derived.Test.YtlkgcnpimnambaaGreatDoorTie
namespace Go.Proofs.YtlkgcnpimnambaaGreatDoor
open Go.ChangeShapes Go.WideShapes Go.ChangeAt Go.RowKit
set_option maxRecDepth 100000
theorem named3 : Tryz.prog.funcNamed "loupe/loupelaw22.RelationNil" = some 3 := by kernel_rfl
theorem holds : Rows.RelationNilSaid :=
  OpenClaim.holds_of_wide 3 Tryz.f3 rfl rfl rfl rfl rfl rfl rfl ⟨rfl, rfl, rfl, rfl, rfl⟩ rfl rfl rfl rfl rfl named3 Tryz.func3 facts
    (of_decide_eq_true (by kernel_rfl)) (by unfold Func.isWrapper; first | (rw [if_pos (by decide +kernel)]; kernel_rfl) | (rw [if_neg (by decide +kernel)]; exact ⟨rfl, rfl⟩))
    (fun os started H enc _ => lifted os started H enc)
theorem goesFrom_ok : Tryz.prog.goesFrom "loupe/loupelaw22.RelationNil" = false := by
  unfold Program.goesFrom
  rw [named3, Option.any_some, Go.Reach.goes3]
theorem goesBy_ok : false = Rows.relationNilRow.goesBy Tryz.prog := by
  show false = (Tryz.prog.goesFrom "loupe/loupelaw22.RelationNil" || false)
  rw [goesFrom_ok, Bool.or_false]
theorem looks_ok : true = Tryz.prog.looks [] := by kernel_rfl
theorem plain_args : ([61, 37].all fun u => !Tryz.prog.wantsStandIn u) = true := by kernel_rfl
theorem card_holds : Rows.RelationNilCardSaid :=
  Claim7.holds_tied_plain_at .later [] [.data, .data, .data, .data, .sentinel, .sentinel, .pinned] true (true, "ff95e9440c809b83fd16a8ffe0ac95c99880793de48c6278811fad5014098f32") true holds (fun _ h => by cases h) (by kernel_rfl) (fun _ h => by cases h) relationNil_row_tie rfl ⟨rfl, rfl⟩ (by kernel_rfl) rfl
    (fun f fn hf hfn => by
      obtain rfl : f = 3 := Option.some.inj (named3.symm.trans hf) |>.symm
      obtain rfl : fn = Tryz.f3 := (Option.some.inj (Tryz.func3.symm.trans hfn)).symm
      exact ⟨looks_ok, fun j t ht => by
        rw [Tryz.params3] at ht
        have hm : t ∈ [61, 37] := by simpa using Array.mem_of_getElem? ht
        exact (show Tryz.prog.wantsStandIn t = false by simpa using List.all_eq_true.1 plain_args t hm)⟩)
    goesBy_ok
end Go.Proofs.YtlkgcnpimnambaaGreatDoor
