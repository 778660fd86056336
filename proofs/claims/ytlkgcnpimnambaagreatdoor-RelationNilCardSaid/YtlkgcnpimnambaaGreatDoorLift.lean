/- PROVED: loupelaw22.RelationNil: for every act and every query the law returns true, and both read behind the call as before; the row, and its tied card. No condition but the row's own: the listed library variables read as the program's text lays them. -/
import Derived.Test.YtlkgcnpimnambaaGreatDoorCalls
import Derived.Test.YtlkgcnpimnambaaGreatDoorStartB
import Derived.Test.YtlkgcnpimnambaaGreatDoorStartC
import Derived.Test.YtlkgcnpimnambaaGreatDoorStartD
import Derived.Test.YtlkgcnpimnambaaGreatDoorStartE
import Derived.Test.YtlkgcnpimnambaaGreatDoorFacts
import Derived.ProofKit
import Derived.Lay
import Derived.LaidMore
import Derived.OpenShut
import Derived.WideKeyArgs
import Derived.SevenTiedAt
namespace Go.Proofs.YtlkgcnpimnambaaGreatDoor
open Go.ChangeShapes Go.WideShapes Go.ChangeAt Go.RowKit
set_option maxRecDepth 100000
theorem own : ownKnob Tryz.prog.godebug = none := by kernel_rfl
theorem laidOutP : laidOutB Tryz.prog = true := Go.Reach.laidOut_ok
set_option maxRecDepth 100000 in
theorem cells61 : Tryz.prog.cellsOf 61 = 175 := by kernel_rfl
set_option maxRecDepth 100000 in
theorem cells37 : Tryz.prog.cellsOf 37 = 24 := by kernel_rfl
set_option maxRecDepth 100000 in
theorem read61 : Tryz.prog.readableRec 61 = true := by kernel_rfl
set_option maxRecDepth 100000 in
theorem read37 : Tryz.prog.readableRec 37 = true := by kernel_rfl
theorem small61 : 61 < Tryz.prog.types.size := of_decide_eq_true (by kernel_rfl)
theorem small37 : 37 < Tryz.prog.types.size := of_decide_eq_true (by kernel_rfl)
set_option maxRecDepth 100000 in
theorem lifted (os : Os) (started : os.Started) (H : Type) (enc : TypeId × Value → H) :
    ReturnsInHanded {} Tryz.checked os 3 .any (fun w args => (Rows.relationNilSpec.pre enc Tryz.prog Tryz.f3 [] false w args ∧ laidMetH Tryz.prog Rows.relationNilRow.laid w) ∧ sizedMet enc Tryz.prog Tryz.f3 (OpenSpec.ofChange Rows.relationNilSpec) false w args)
      (Rows.relationNilSpec.post enc Tryz.prog Tryz.f3 false true false false) := by
  refine returnsInHanded_of_change_and (C := Tryz.checked) (X := fun w _ => laidMetH Tryz.prog Rows.relationNilRow.laid w) (fun _ _ _ hh h => h.of_heap hh) own started z9 Tryz.func3
    (ChangeSpec.witness_shaped (enc := enc) (C := Tryz.checked) (os := os) (X := fun w _ => laidMetH Tryz.prog Rows.relationNilRow.laid w) false (laid0 os) args0 8 (World.laidAll_os _ _ _)
      (World.shaped_of_ZipB (z1 os) (z2 os)) (z3 os) (z4 os H enc) (z5 os H enc)
      (by rw [MakeChecks.laidMetH_plain _ _ _ z6]; exact laidMet_laidAll _ (z7 os) (z8 os))) ?_
  intro W base args ds gs before hval0 hW _ _ _ _
  have hval : ∀ (j : Nat) t v, Tryz.f3.params[j]? = some t → args[j]? = some v → Value.okWide Tryz.prog W .any base t v := hval0
  have hW' := hW
  obtain ⟨p, q, hA0, hV, rfl, _, _⟩ := hW
  have hA : DataW.TrodAll enc Tryz.prog W 0 (fun _ => true) true Tryz.f3.params.toList args.toList ds p := hA0
  rw [Tryz.params3] at hA hval
  obtain ⟨v0, v1, d0, d1, p0, p1, rfl, rfl, rfl, h0, h1⟩ := trodAll_two hA
  obtain ⟨rfl, rfl⟩ := trodVars_none hV
  obtain ⟨cs, rfl, hcs, hc1⟩ := Go.Abs.okWide_agg Tryz.underlying61 (hval 0 61 v0 rfl rfl)
  obtain ⟨es, rfl, hes, he1⟩ := Go.Abs.okWide_agg Tryz.underlying37 (hval 1 37 v1 rfl rfl)
  simp only [List.append_nil] at hW'
  refine (nil_calls (hcs.trans cells61) (hes.trans cells37) hc1 he1 W).mono fun e W' ⟨he, hb⟩ => ?_
  subst he
  have hlt : ∀ x ∈ p0 ++ p1, x.block < W.heap.size := fun x hx => by simpa using hW'.lt x hx
  have st : ∀ {t : TypeId} {v : Value} {d : DataW H} {ps : List MemPlace} {sp : Nat → Bool}, Tryz.prog.readableRec t = true → t < Tryz.prog.types.size → DataW.Trod enc Tryz.prog W 0 (fun _ => true) true t v d ps → (∀ x ∈ ps, x ∈ p0 ++ p1) →
      (∀ x ∈ ps, sp x.block = true) → DataW.Trod enc Tryz.prog W' 0 sp true t v d ps := fun h1 h2 h hin hs =>
    WideElems.Trod_stays laidOutP h1 h2 h (fun x hx => hb.same (hlt x (hin x hx))) hs
  refine ⟨_, rfl, _, _, _, [], _, [], hW', trodAll_mk1 (shut_bool Tryz.underlying4 _), trodAll_mk2 (st read61 small61 h0 (fun x hx => List.mem_append_left _ hx) ?_) (st read37 small37 h1 (fun x hx => List.mem_append_right _ hx) ?_), rfl, hb.frame _, fun h => by cases h⟩
  · intro x hx
    simpa using hlt x (List.mem_append_left _ hx)
  · intro x hx
    simpa using hlt x (List.mem_append_right _ hx)
end Go.Proofs.YtlkgcnpimnambaaGreatDoor
