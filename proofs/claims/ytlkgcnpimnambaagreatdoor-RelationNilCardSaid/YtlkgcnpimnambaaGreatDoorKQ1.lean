/- PROVED: what one call of the program answers, over the memory that it meets (a step of the law's run). No condition. -/
import Derived.Test.YtlkgcnpimnambaaGreatDoorQd
import Derived.Test.YtlkgcnpimnambaaGreatDoorProg
namespace Go.Abs
open Go Go.Proofs
def KQ1 : Known := ⟨61, [.str [115, 101, 108, 101, 99, 116, 32, 98, 44, 32, 99, 111, 117, 110, 116, 40, 42, 41, 32, 102, 114, 111, 109, 32, 116, 32, 103, 114, 111, 117, 112, 32, 98, 121, 32, 98, 32, 111, 114, 100, 101, 114, 32, 98, 121, 32, 98, 32, 100, 101, 115, 99]], [], .agg [.bool false, .slice 0 0 2 2 11, .str [116], .str [], .nils, .int .i64 0, .int .i64 0, .int .i64 0, .str [], .str [], .str [], .int .i64 0, .nils, .slice 1 0 1 1 8, .int .i64 0, .int .i64 0, .int .i64 0, .str [], .str [], .str [], .int .i64 0, .nils, .slice 2 0 1 1 9, .int .i64 (-1)],
  [.cells [.bool false, .str [], .int .i64 2, .int .i64 0, .int .i64 0, .str [], .str [], .str [98], .int .i64 0, .nils, .str [], .bool false, .str [], .int .i64 5, .int .i64 0, .int .i64 0, .str [], .str [], .str [99, 111, 117, 110, 116], .int .i64 0, .nils, .str []] 243 0 0 1,
   .cells [.int .i64 2, .int .i64 0, .int .i64 0, .str [], .str [], .str [98], .int .i64 0, .nils] 34 0 0 1,
   .cells [.int .i64 2, .int .i64 0, .int .i64 0, .str [], .str [], .str [98], .int .i64 0, .nils, .bool true] 338 0 0 1]⟩
theorem KQ1_ok : KnownOk Tryz.prog KQ1 := known_of (K := []) (fun _ h => by cases h) (by kernel_rfl) (ψ := [926, 1366, 1761]) (n := 1000000) (by kernel_rfl)
end Go.Abs
