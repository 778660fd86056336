/- PROVED: closed facts of this program for the row of RelationNil, a piece at a time. No condition. -/
import Derived.Test.YtlkgcnpimnambaaGreatDoorQe
import Derived.Test.YtlkgcnpimnambaaGreatDoorProg
import Derived.KernelRfl
namespace Go.Reach
open Go Go.Proofs
set_option maxRecDepth 100000
theorem nTypes : Tryz.prog.types.size = 878 := by kernel_rfl
theorem rf0 : (((List.range 878).drop 0).take 110).all (rowFine Tryz.prog) = true := by kernel_rfl
theorem rf1 : (((List.range 878).drop 110).take 110).all (rowFine Tryz.prog) = true := by kernel_rfl
theorem rf2 : (((List.range 878).drop 220).take 110).all (rowFine Tryz.prog) = true := by kernel_rfl
theorem rf3 : (((List.range 878).drop 330).take 110).all (rowFine Tryz.prog) = true := by kernel_rfl
theorem rf4 : (((List.range 878).drop 440).take 110).all (rowFine Tryz.prog) = true := by kernel_rfl
theorem rf5 : (((List.range 878).drop 550).take 110).all (rowFine Tryz.prog) = true := by kernel_rfl
theorem rf6 : (((List.range 878).drop 660).take 110).all (rowFine Tryz.prog) = true := by kernel_rfl
theorem rf7 : (((List.range 878).drop 770).take 110).all (rowFine Tryz.prog) = true := by kernel_rfl
theorem rf : ((List.range 878).drop 0).all (rowFine Tryz.prog) = true :=
  all_step (a := 0) (k := 110) rf0 (all_step (a := 110) (k := 110) rf1 (all_step (a := 220) (k := 110) rf2 (all_step (a := 330) (k := 110) rf3 (all_step (a := 440) (k := 110) rf4 (all_step (a := 550) (k := 110) rf5 (all_step (a := 660) (k := 110) rf6 (all_step (a := 770) (k := 110) rf7 (all_end (by kernel_rfl)))))))))
theorem laidOut_ok : laidOutB Tryz.prog = true := laidOut_of nTypes rf (by kernel_rfl) (by kernel_rfl)
theorem mr0 : (((List.range 878).drop 0).take 220).all (fun t => match Tryz.prog.underlying t with | some (.map _ e) => decide (e < 878) | _ => true) = true := by kernel_rfl
theorem mr1 : (((List.range 878).drop 220).take 220).all (fun t => match Tryz.prog.underlying t with | some (.map _ e) => decide (e < 878) | _ => true) = true := by kernel_rfl
theorem mr2 : (((List.range 878).drop 440).take 220).all (fun t => match Tryz.prog.underlying t with | some (.map _ e) => decide (e < 878) | _ => true) = true := by kernel_rfl
theorem mr3 : (((List.range 878).drop 660).take 220).all (fun t => match Tryz.prog.underlying t with | some (.map _ e) => decide (e < 878) | _ => true) = true := by kernel_rfl
theorem mr : ((List.range 878).drop 0).all (fun t => match Tryz.prog.underlying t with | some (.map _ e) => decide (e < 878) | _ => true) = true :=
  all_step (a := 0) (k := 220) mr0 (all_step (a := 220) (k := 220) mr1 (all_step (a := 440) (k := 220) mr2 (all_step (a := 660) (k := 220) mr3 (all_end (by kernel_rfl)))))
theorem mapsRowed_ok : mapsRowed Tryz.prog = true := mapsRowed_of nTypes mr
theorem pk0 : (((List.range 878).drop 0).take 220).all (fun t => match Tryz.prog.underlying t with | some (.map k _) => (match Tryz.prog.underlying k with | some (.array _ _) | some (.struct _) => false | _ => true) | _ => true) = true := by kernel_rfl
theorem pk1 : (((List.range 878).drop 220).take 220).all (fun t => match Tryz.prog.underlying t with | some (.map k _) => (match Tryz.prog.underlying k with | some (.array _ _) | some (.struct _) => false | _ => true) | _ => true) = true := by kernel_rfl
theorem pk2 : (((List.range 878).drop 440).take 220).all (fun t => match Tryz.prog.underlying t with | some (.map k _) => (match Tryz.prog.underlying k with | some (.array _ _) | some (.struct _) => false | _ => true) | _ => true) = true := by kernel_rfl
theorem pk3 : (((List.range 878).drop 660).take 220).all (fun t => match Tryz.prog.underlying t with | some (.map k _) => (match Tryz.prog.underlying k with | some (.array _ _) | some (.struct _) => false | _ => true) | _ => true) = true := by kernel_rfl
theorem pk : ((List.range 878).drop 0).all (fun t => match Tryz.prog.underlying t with | some (.map k _) => (match Tryz.prog.underlying k with | some (.array _ _) | some (.struct _) => false | _ => true) | _ => true) = true :=
  all_step (a := 0) (k := 220) pk0 (all_step (a := 220) (k := 220) pk1 (all_step (a := 440) (k := 220) pk2 (all_step (a := 660) (k := 220) pk3 (all_end (by kernel_rfl)))))
theorem plainKeys_ok : Tryz.prog.plainKeys = true := plainKeys_of nTypes pk
theorem sh0 : (((Tryz.prog.funcs.toList).drop 0).take 232).all (fun fn => (Stop.rowOf fn).isNone || !fn.norace) = true := by kernel_rfl
theorem sh1 : (((Tryz.prog.funcs.toList).drop 232).take 232).all (fun fn => (Stop.rowOf fn).isNone || !fn.norace) = true := by kernel_rfl
theorem sh2 : (((Tryz.prog.funcs.toList).drop 464).take 232).all (fun fn => (Stop.rowOf fn).isNone || !fn.norace) = true := by kernel_rfl
theorem sh3 : (((Tryz.prog.funcs.toList).drop 696).take 232).all (fun fn => (Stop.rowOf fn).isNone || !fn.norace) = true := by kernel_rfl
theorem sh : ((Tryz.prog.funcs.toList).drop 0).all (fun fn => (Stop.rowOf fn).isNone || !fn.norace) = true :=
  all_step (a := 0) (k := 232) sh0 (all_step (a := 232) (k := 232) sh1 (all_step (a := 464) (k := 232) sh2 (all_step (a := 696) (k := 232) sh3 (all_end (by kernel_rfl)))))
theorem stopsHeard_ok : Tryz.prog.stopsHeard = true := stopsHeard_of sh
end Go.Reach
