/- PROVED: what one call of the program answers, over the memory that it meets (a step of the law's run). No condition. -/
import Derived.Test.YtlkgcnpimnambaaGreatDoorQd
import Derived.Test.YtlkgcnpimnambaaGreatDoorProg
namespace Go.Abs
open Go Go.Proofs
def KQ4 : Known := ⟨61, [.str [115, 101, 108, 101, 99, 116, 32, 49, 32, 47, 32, 40, 97, 32, 45, 32, 51, 41, 32, 102, 114, 111, 109, 32, 116]], [], .agg [.bool false, .slice 0 0 1 1 11, .str [116], .str [], .nils, .int .i64 0, .int .i64 0, .int .i64 0, .str [], .str [], .str [], .int .i64 0, .nils, .nils, .int .i64 0, .int .i64 0, .int .i64 0, .str [], .str [], .str [], .int .i64 0, .nils, .nils, .int .i64 (-1)],
  [.cells [.bool false, .str [], .int .i64 3, .int .i64 0, .int .i64 0, .str [], .str [], .str [], .int .i64 4, .slice 1 0 2 2 0, .str []] 243 0 0 1,
   .cells [.int .i64 1, .int .i64 2, .int .i64 1, .str [], .str [], .str [], .int .i64 0, .nils, .int .i64 3, .int .i64 0, .int .i64 0, .str [], .str [], .str [], .int .i64 2, .slice 2 0 2 2 0] 34 0 0 0,
   .cells [.int .i64 2, .int .i64 0, .int .i64 0, .str [], .str [], .str [97], .int .i64 0, .nils, .int .i64 1, .int .i64 2, .int .i64 3, .str [], .str [], .str [], .int .i64 0, .nils] 34 0 0 0]⟩
theorem KQ4_ok : KnownOk Tryz.prog KQ4 := known_of (K := []) (fun _ h => by cases h) (by kernel_rfl) (ψ := [950, 711, 518]) (n := 1000000) (by kernel_rfl)
end Go.Abs
