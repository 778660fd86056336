/- PROVED: what one call of the program answers, over the memory that it meets (a step of the law's run). No condition. -/
import Derived.Test.YtlkgcnpimnambaaGreatDoorQd
import Derived.Test.YtlkgcnpimnambaaGreatDoorProg
namespace Go.Abs
open Go Go.Proofs
def KQ3 : Known := ⟨61, [.str [115, 101, 108, 101, 99, 116, 32, 100, 105, 115, 116, 105, 110, 99, 116, 32, 98, 32, 102, 114, 111, 109, 32, 116, 32, 108, 105, 109, 105, 116, 32, 49]], [], .agg [.bool true, .slice 0 0 1 1 11, .str [116], .str [], .nils, .int .i64 0, .int .i64 0, .int .i64 0, .str [], .str [], .str [], .int .i64 0, .nils, .nils, .int .i64 0, .int .i64 0, .int .i64 0, .str [], .str [], .str [], .int .i64 0, .nils, .nils, .int .i64 1],
  [.cells [.bool false, .str [], .int .i64 2, .int .i64 0, .int .i64 0, .str [], .str [], .str [98], .int .i64 0, .nils, .str []] 243 0 0 1]⟩
theorem KQ3_ok : KnownOk Tryz.prog KQ3 := known_of (K := []) (fun _ h => by cases h) (by kernel_rfl) (ψ := [468]) (n := 1000000) (by kernel_rfl)
end Go.Abs
