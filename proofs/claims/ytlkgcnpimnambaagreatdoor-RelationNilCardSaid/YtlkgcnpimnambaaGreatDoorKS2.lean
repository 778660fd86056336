/- PROVED: what one call of the program answers, over the memory that it meets (a step of the law's run). No condition. -/
import Derived.Test.YtlkgcnpimnambaaGreatDoorQd
import Derived.Test.YtlkgcnpimnambaaGreatDoorProg
import Derived.Test.YtlkgcnpimnambaaGreatDoorKP0
import Derived.Test.YtlkgcnpimnambaaGreatDoorKDo
import Derived.Test.YtlkgcnpimnambaaGreatDoorKI1
import Derived.Test.YtlkgcnpimnambaaGreatDoorKI2
import Derived.Test.YtlkgcnpimnambaaGreatDoorKI3
import Derived.Test.YtlkgcnpimnambaaGreatDoorKQ1
import Derived.Test.YtlkgcnpimnambaaGreatDoorKS1
import Derived.Test.YtlkgcnpimnambaaGreatDoorKQ2
import Derived.Test.YtlkgcnpimnambaaGreatDoorKA2
namespace Go.Abs
open Go Go.Proofs
def KS2 : Known := ⟨6, [.ptr 0 0, .agg [.bool false, .slice 1 0 2 2 11, .str [116], .str [120], .slice 2 0 1 1 10, .int .i64 3, .int .i64 0, .int .i64 0, .str [], .str [], .str [], .int .i64 9, .slice 3 0 2 2 0, .nils, .int .i64 0, .int .i64 0, .int .i64 0, .str [], .str [], .str [], .int .i64 0, .nils, .nils, .int .i64 (-1)]], [.cells [.ptr 4 0, .map 5] 104 0 0 0,
   .cells [.bool false, .str [], .int .i64 2, .int .i64 0, .int .i64 0, .str [], .str [120], .str [97], .int .i64 0, .nils, .str [], .bool false, .str [], .int .i64 2, .int .i64 0, .int .i64 0, .str [], .str [121], .str [97], .int .i64 0, .nils, .str []] 243 0 0 1,
   .cells [.str [116], .str [121], .int .i64 3, .int .i64 0, .int .i64 0, .str [], .str [], .str [], .int .i64 7, .slice 6 0 2 2 0] 333 0 0 1,
   .cells [.int .i64 2, .int .i64 0, .int .i64 0, .str [], .str [120], .str [97], .int .i64 0, .nils, .int .i64 2, .int .i64 0, .int .i64 0, .str [], .str [121], .str [97], .int .i64 0, .nils] 34 0 0 0,
   .cells [.slice 7 0 1 1 174, .bool true] 197 0 0 0,
   .map [⟨.str [116], .agg [.slice 8 0 3 3 2, .int .i64 4], 0⟩] 1,
   .cells [.int .i64 2, .int .i64 0, .int .i64 0, .str [], .str [120], .str [98], .int .i64 0, .nils, .int .i64 2, .int .i64 0, .int .i64 0, .str [], .str [121], .str [98], .int .i64 0, .nils] 34 0 0 0,
   .cells [.int .i64 3, .bool false, .nils, .str [], .str [], .nils, .int .i64 0, .int .i64 0, .int .i64 0, .str [], .str [], .str [], .int .i64 0, .nils, .nils, .int .i64 0, .int .i64 0, .int .i64 0, .str [], .str [], .str [], .int .i64 0, .nils, .nils, .int .i64 0, .int .i64 0, .str [], .str [], .nils, .nils, .bool false, .bool false, .nils, .str [], .str [], .nils, .int .i64 0, .int .i64 0, .int .i64 0, .str [], .str [], .str [], .int .i64 0, .nils, .nils, .int .i64 0, .int .i64 0, .int .i64 0, .str [], .str [], .str [], .int .i64 0, .nils, .nils, .int .i64 0, .nils, .int .i64 0, .nils, .int .i64 0, .int .i64 0, .int .i64 0, .str [], .str [], .str [], .int .i64 0, .nils, .str [], .str [], .int .i64 0, .int .i64 0, .int .i64 0, .str [], .str [], .str [], .int .i64 0, .nils, .nils, .nils, .str [116], .slice 9 0 2 2 16, .nils, .nils, .nils, .str [], .str [], .nils, .bool false, .str [], .nils, .bool false, .nils, .str [], .str [], .nils, .int .i64 0, .int .i64 0, .int .i64 0, .str [], .str [], .str [], .int .i64 0, .nils, .nils, .int .i64 0, .int .i64 0, .int .i64 0, .str [], .str [], .str [], .int .i64 0, .nils, .nils, .int .i64 0, .int .i64 0, .str [], .int .i64 0, .str [], .int .i64 0, .str [], .str [], .nils, .nils, .bool false, .bool false, .nils, .str [], .str [], .nils, .int .i64 0, .int .i64 0, .int .i64 0, .str [], .str [], .str [], .int .i64 0, .nils, .nils, .int .i64 0, .int .i64 0, .int .i64 0, .str [], .str [], .str [], .int .i64 0, .nils, .nils, .int .i64 0, .nils, .int .i64 0, .nils, .int .i64 0, .int .i64 0, .int .i64 0, .str [], .str [], .str [], .int .i64 0, .nils, .str [], .str [], .int .i64 0, .int .i64 0, .int .i64 0, .str [], .str [], .str [], .int .i64 0, .nils, .nils, .nils, .str [], .int .i64 0, .str [116], .slice 10 0 2 2 3] 207 0 0 1,
   .cells [.int .i64 1, .slice 11 0 2 2 3, .int .i64 2, .slice 12 0 2 2 3, .int .i64 3, .slice 13 0 2 2 3] 93 0 0 1,
   .cells [.str [97], .int .i64 2, .bool false, .bool false, .bool false, .int .i64 0, .int .i64 0, .int .i64 0, .str [], .str [], .str [], .int .i64 0, .nils, .str [], .str [], .int .i64 0, .str [98], .int .i64 3, .bool false, .bool false, .bool false, .int .i64 0, .int .i64 0, .int .i64 0, .str [], .str [], .str [], .int .i64 0, .nils, .str [], .str [], .int .i64 0] 164 0 0 1,
   .cells [.str [], .str [97], .int .i64 2, .str [], .str [98], .int .i64 3] 128 0 0 1,
   .cells [.int .i64 2, .int .i64 1, .str [], .int .i64 3, .int .i64 0, .str [120]] 30 0 0 1,
   .cells [.int .i64 2, .int .i64 2, .str [], .int .i64 3, .int .i64 0, .str [121]] 30 0 0 1,
   .cells [.int .i64 2, .int .i64 3, .str [], .int .i64 3, .int .i64 0, .str [120]] 30 0 0 1],
  .tuple [.agg [.slice 14 0 2 2 1, .slice 15 0 2 2 1, .slice 16 0 1 1 1], .int .i64 0],
  [.cells [.ptr 4 0, .map 5] 104 0 0 0,
   .cells [.bool false, .str [], .int .i64 2, .int .i64 0, .int .i64 0, .str [], .str [120], .str [97], .int .i64 0, .nils, .str [], .bool false, .str [], .int .i64 2, .int .i64 0, .int .i64 0, .str [], .str [121], .str [97], .int .i64 0, .nils, .str []] 243 0 0 1,
   .cells [.str [116], .str [121], .int .i64 3, .int .i64 0, .int .i64 0, .str [], .str [], .str [], .int .i64 7, .slice 6 0 2 2 0] 333 0 0 1,
   .cells [.int .i64 2, .int .i64 0, .int .i64 0, .str [], .str [120], .str [97], .int .i64 0, .nils, .int .i64 2, .int .i64 0, .int .i64 0, .str [], .str [121], .str [97], .int .i64 0, .nils] 34 0 0 0,
   .cells [.slice 7 0 1 1 174, .bool true] 197 0 0 0,
   .map [⟨.str [116], .agg [.slice 8 0 3 3 2, .int .i64 4], 0⟩] 1,
   .cells [.int .i64 2, .int .i64 0, .int .i64 0, .str [], .str [120], .str [98], .int .i64 0, .nils, .int .i64 2, .int .i64 0, .int .i64 0, .str [], .str [121], .str [98], .int .i64 0, .nils] 34 0 0 0,
   .cells [.int .i64 3, .bool false, .nils, .str [], .str [], .nils, .int .i64 0, .int .i64 0, .int .i64 0, .str [], .str [], .str [], .int .i64 0, .nils, .nils, .int .i64 0, .int .i64 0, .int .i64 0, .str [], .str [], .str [], .int .i64 0, .nils, .nils, .int .i64 0, .int .i64 0, .str [], .str [], .nils, .nils, .bool false, .bool false, .nils, .str [], .str [], .nils, .int .i64 0, .int .i64 0, .int .i64 0, .str [], .str [], .str [], .int .i64 0, .nils, .nils, .int .i64 0, .int .i64 0, .int .i64 0, .str [], .str [], .str [], .int .i64 0, .nils, .nils, .int .i64 0, .nils, .int .i64 0, .nils, .int .i64 0, .int .i64 0, .int .i64 0, .str [], .str [], .str [], .int .i64 0, .nils, .str [], .str [], .int .i64 0, .int .i64 0, .int .i64 0, .str [], .str [], .str [], .int .i64 0, .nils, .nils, .nils, .str [116], .slice 9 0 2 2 16, .nils, .nils, .nils, .str [], .str [], .nils, .bool false, .str [], .nils, .bool false, .nils, .str [], .str [], .nils, .int .i64 0, .int .i64 0, .int .i64 0, .str [], .str [], .str [], .int .i64 0, .nils, .nils, .int .i64 0, .int .i64 0, .int .i64 0, .str [], .str [], .str [], .int .i64 0, .nils, .nils, .int .i64 0, .int .i64 0, .str [], .int .i64 0, .str [], .int .i64 0, .str [], .str [], .nils, .nils, .bool false, .bool false, .nils, .str [], .str [], .nils, .int .i64 0, .int .i64 0, .int .i64 0, .str [], .str [], .str [], .int .i64 0, .nils, .nils, .int .i64 0, .int .i64 0, .int .i64 0, .str [], .str [], .str [], .int .i64 0, .nils, .nils, .int .i64 0, .nils, .int .i64 0, .nils, .int .i64 0, .int .i64 0, .int .i64 0, .str [], .str [], .str [], .int .i64 0, .nils, .str [], .str [], .int .i64 0, .int .i64 0, .int .i64 0, .str [], .str [], .str [], .int .i64 0, .nils, .nils, .nils, .str [], .int .i64 0, .str [116], .slice 10 0 2 2 3] 207 0 0 1,
   .cells [.int .i64 1, .slice 11 0 2 2 3, .int .i64 2, .slice 12 0 2 2 3, .int .i64 3, .slice 13 0 2 2 3] 93 0 0 1,
   .cells [.str [97], .int .i64 2, .bool false, .bool false, .bool false, .int .i64 0, .int .i64 0, .int .i64 0, .str [], .str [], .str [], .int .i64 0, .nils, .str [], .str [], .int .i64 0, .str [98], .int .i64 3, .bool false, .bool false, .bool false, .int .i64 0, .int .i64 0, .int .i64 0, .str [], .str [], .str [], .int .i64 0, .nils, .str [], .str [], .int .i64 0] 164 0 0 1,
   .cells [.str [], .str [97], .int .i64 2, .str [], .str [98], .int .i64 3] 128 0 0 1,
   .cells [.int .i64 2, .int .i64 1, .str [], .int .i64 3, .int .i64 0, .str [120]] 30 0 0 1,
   .cells [.int .i64 2, .int .i64 2, .str [], .int .i64 3, .int .i64 0, .str [121]] 30 0 0 1,
   .cells [.int .i64 2, .int .i64 3, .str [], .int .i64 3, .int .i64 0, .str [120]] 30 0 0 1,
   .cells [.str [97], .str [97]] 9 0 0 1,
   .cells [.int .i64 2, .int .i64 2] 109 0 0 1,
   .cells [.slice 17 0 2 2 3] 59 0 0 1,
   .cells [.int .i64 2, .int .i64 1, .str [], .int .i64 2, .int .i64 3, .str []] 30 0 0 1]⟩
theorem KS2_ok : KnownOk Tryz.prog KS2 := known_of (K := [KP0,KDo,KI1,KI2,KI3,KQ1,KS1,KQ2,KA2]) (kcons KP0_ok (kcons KDo_ok (kcons KI1_ok (kcons KI2_ok (kcons KI3_ok (kcons KQ1_ok (kcons KS1_ok (kcons KQ2_ok (kcons KA2_ok (knil _)))))))))) (by kernel_rfl) (ψ := [0,1,2,3,4,5,6,7,8,9,10,11,12,13,23,35,2806,2804]) (n := 1000000) (by kernel_rfl)
end Go.Abs
