/- PROVED: what one call of the program answers, over the memory that it meets (a step of the law's run). No condition. -/
import Derived.Test.YtlkgcnpimnambaaGreatDoorQd
import Derived.Test.YtlkgcnpimnambaaGreatDoorProg
namespace Go.Abs
open Go Go.Proofs
def KQ2 : Known := ⟨61, [.str [115, 101, 108, 101, 99, 116, 32, 120, 46, 97, 44, 32, 121, 46, 97, 32, 102, 114, 111, 109, 32, 116, 32, 97, 115, 32, 120, 32, 106, 111, 105, 110, 32, 116, 32, 97, 115, 32, 121, 32, 111, 110, 32, 120, 46, 98, 32, 61, 32, 121, 46, 98, 32, 119, 104, 101, 114, 101, 32, 120, 46, 97, 32, 60, 32, 121, 46, 97]], [], .agg [.bool false, .slice 0 0 2 2 11, .str [116], .str [120], .slice 1 0 1 1 10, .int .i64 3, .int .i64 0, .int .i64 0, .str [], .str [], .str [], .int .i64 9, .slice 2 0 2 2 0, .nils, .int .i64 0, .int .i64 0, .int .i64 0, .str [], .str [], .str [], .int .i64 0, .nils, .nils, .int .i64 (-1)],
  [.cells [.bool false, .str [], .int .i64 2, .int .i64 0, .int .i64 0, .str [], .str [120], .str [97], .int .i64 0, .nils, .str [], .bool false, .str [], .int .i64 2, .int .i64 0, .int .i64 0, .str [], .str [121], .str [97], .int .i64 0, .nils, .str []] 243 0 0 1,
   .cells [.str [116], .str [121], .int .i64 3, .int .i64 0, .int .i64 0, .str [], .str [], .str [], .int .i64 7, .slice 3 0 2 2 0] 333 0 0 1,
   .cells [.int .i64 2, .int .i64 0, .int .i64 0, .str [], .str [120], .str [97], .int .i64 0, .nils, .int .i64 2, .int .i64 0, .int .i64 0, .str [], .str [121], .str [97], .int .i64 0, .nils] 34 0 0 0,
   .cells [.int .i64 2, .int .i64 0, .int .i64 0, .str [], .str [120], .str [98], .int .i64 0, .nils, .int .i64 2, .int .i64 0, .int .i64 0, .str [], .str [121], .str [98], .int .i64 0, .nils] 34 0 0 0]⟩
theorem KQ2_ok : KnownOk Tryz.prog KQ2 := known_of (K := []) (fun _ h => by cases h) (by kernel_rfl) (ψ := [1031, 1611, 2092, 1570]) (n := 1000000) (by kernel_rfl)
end Go.Abs
