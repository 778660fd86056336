/- PROVED: what one call of the program answers, over the memory that it meets (a step of the law's run). No condition. -/
import Derived.Test.YtlkgcnpimnambaaGreatDoorQd
import Derived.Test.YtlkgcnpimnambaaGreatDoorProg
import Derived.Test.YtlkgcnpimnambaaGreatDoorKP0
import Derived.Test.YtlkgcnpimnambaaGreatDoorKDo
import Derived.Test.YtlkgcnpimnambaaGreatDoorKI1
import Derived.Test.YtlkgcnpimnambaaGreatDoorKI2
import Derived.Test.YtlkgcnpimnambaaGreatDoorKI3
import Derived.Test.YtlkgcnpimnambaaGreatDoorKQ1
import Derived.Test.YtlkgcnpimnambaaGreatDoorKS1
import Derived.Test.YtlkgcnpimnambaaGreatDoorKQ2
import Derived.Test.YtlkgcnpimnambaaGreatDoorKS2
import Derived.Test.YtlkgcnpimnambaaGreatDoorKQ3
import Derived.Test.YtlkgcnpimnambaaGreatDoorKS3
namespace Go.Abs
open Go Go.Proofs
def KDl : Known := ⟨12, [.ptr 0 0, .str [116], .int .i64 2], [.cells [.ptr 1 0, .map 2] 104 0 0 0,
   .cells [.slice 3 0 1 1 174, .bool true] 197 0 0 0,
   .map [⟨.str [116], .agg [.slice 4 0 3 3 2, .int .i64 4], 0⟩] 1,
   .cells [.int .i64 3, .bool false, .nils, .str [], .str [], .nils, .int .i64 0, .int .i64 0, .int .i64 0, .str [], .str [], .str [], .int .i64 0, .nils, .nils, .int .i64 0, .int .i64 0, .int .i64 0, .str [], .str [], .str [], .int .i64 0, .nils, .nils, .int .i64 0, .int .i64 0, .str [], .str [], .nils, .nils, .bool false, .bool false, .nils, .str [], .str [], .nils, .int .i64 0, .int .i64 0, .int .i64 0, .str [], .str [], .str [], .int .i64 0, .nils, .nils, .int .i64 0, .int .i64 0, .int .i64 0, .str [], .str [], .str [], .int .i64 0, .nils, .nils, .int .i64 0, .nils, .int .i64 0, .nils, .int .i64 0, .int .i64 0, .int .i64 0, .str [], .str [], .str [], .int .i64 0, .nils, .str [], .str [], .int .i64 0, .int .i64 0, .int .i64 0, .str [], .str [], .str [], .int .i64 0, .nils, .nils, .nils, .str [116], .slice 5 0 2 2 16, .nils, .nils, .nils, .str [], .str [], .nils, .bool false, .str [], .nils, .bool false, .nils, .str [], .str [], .nils, .int .i64 0, .int .i64 0, .int .i64 0, .str [], .str [], .str [], .int .i64 0, .nils, .nils, .int .i64 0, .int .i64 0, .int .i64 0, .str [], .str [], .str [], .int .i64 0, .nils, .nils, .int .i64 0, .int .i64 0, .str [], .int .i64 0, .str [], .int .i64 0, .str [], .str [], .nils, .nils, .bool false, .bool false, .nils, .str [], .str [], .nils, .int .i64 0, .int .i64 0, .int .i64 0, .str [], .str [], .str [], .int .i64 0, .nils, .nils, .int .i64 0, .int .i64 0, .int .i64 0, .str [], .str [], .str [], .int .i64 0, .nils, .nils, .int .i64 0, .nils, .int .i64 0, .nils, .int .i64 0, .int .i64 0, .int .i64 0, .str [], .str [], .str [], .int .i64 0, .nils, .str [], .str [], .int .i64 0, .int .i64 0, .int .i64 0, .str [], .str [], .str [], .int .i64 0, .nils, .nils, .nils, .str [], .int .i64 0, .str [116], .slice 6 0 2 2 3] 207 0 0 1,
   .cells [.int .i64 1, .slice 7 0 2 2 3, .int .i64 2, .slice 8 0 2 2 3, .int .i64 3, .slice 9 0 2 2 3] 93 0 0 1,
   .cells [.str [97], .int .i64 2, .bool false, .bool false, .bool false, .int .i64 0, .int .i64 0, .int .i64 0, .str [], .str [], .str [], .int .i64 0, .nils, .str [], .str [], .int .i64 0, .str [98], .int .i64 3, .bool false, .bool false, .bool false, .int .i64 0, .int .i64 0, .int .i64 0, .str [], .str [], .str [], .int .i64 0, .nils, .str [], .str [], .int .i64 0] 164 0 0 1,
   .cells [.str [], .str [97], .int .i64 2, .str [], .str [98], .int .i64 3] 128 0 0 1,
   .cells [.int .i64 2, .int .i64 1, .str [], .int .i64 3, .int .i64 0, .str [120]] 30 0 0 1,
   .cells [.int .i64 2, .int .i64 2, .str [], .int .i64 3, .int .i64 0, .str [121]] 30 0 0 1,
   .cells [.int .i64 2, .int .i64 3, .str [], .int .i64 3, .int .i64 0, .str [120]] 30 0 0 1],
  .int .i64 0,
  [.cells [.ptr 1 0, .map 2] 104 0 0 0,
   .cells [.slice 3 0 1 1 174, .bool true] 197 0 0 0,
   .map [⟨.str [116], .agg [.slice 10 0 2 3 2, .int .i64 4], 0⟩] 1,
   .cells [.int .i64 3, .bool false, .nils, .str [], .str [], .nils, .int .i64 0, .int .i64 0, .int .i64 0, .str [], .str [], .str [], .int .i64 0, .nils, .nils, .int .i64 0, .int .i64 0, .int .i64 0, .str [], .str [], .str [], .int .i64 0, .nils, .nils, .int .i64 0, .int .i64 0, .str [], .str [], .nils, .nils, .bool false, .bool false, .nils, .str [], .str [], .nils, .int .i64 0, .int .i64 0, .int .i64 0, .str [], .str [], .str [], .int .i64 0, .nils, .nils, .int .i64 0, .int .i64 0, .int .i64 0, .str [], .str [], .str [], .int .i64 0, .nils, .nils, .int .i64 0, .nils, .int .i64 0, .nils, .int .i64 0, .int .i64 0, .int .i64 0, .str [], .str [], .str [], .int .i64 0, .nils, .str [], .str [], .int .i64 0, .int .i64 0, .int .i64 0, .str [], .str [], .str [], .int .i64 0, .nils, .nils, .nils, .str [116], .slice 5 0 2 2 16, .nils, .nils, .nils, .str [], .str [], .nils, .bool false, .str [], .nils, .bool false, .nils, .str [], .str [], .nils, .int .i64 0, .int .i64 0, .int .i64 0, .str [], .str [], .str [], .int .i64 0, .nils, .nils, .int .i64 0, .int .i64 0, .int .i64 0, .str [], .str [], .str [], .int .i64 0, .nils, .nils, .int .i64 0, .int .i64 0, .str [], .int .i64 0, .str [], .int .i64 0, .str [], .str [], .nils, .nils, .bool false, .bool false, .nils, .str [], .str [], .nils, .int .i64 0, .int .i64 0, .int .i64 0, .str [], .str [], .str [], .int .i64 0, .nils, .nils, .int .i64 0, .int .i64 0, .int .i64 0, .str [], .str [], .str [], .int .i64 0, .nils, .nils, .int .i64 0, .nils, .int .i64 0, .nils, .int .i64 0, .int .i64 0, .int .i64 0, .str [], .str [], .str [], .int .i64 0, .nils, .str [], .str [], .int .i64 0, .int .i64 0, .int .i64 0, .str [], .str [], .str [], .int .i64 0, .nils, .nils, .nils, .str [], .int .i64 0, .str [116], .slice 6 0 2 2 3] 207 0 0 1,
   .cells [.int .i64 1, .slice 7 0 2 2 3, .int .i64 2, .slice 8 0 2 2 3, .int .i64 3, .slice 9 0 2 2 3] 93 0 0 1,
   .cells [.str [97], .int .i64 2, .bool false, .bool false, .bool false, .int .i64 0, .int .i64 0, .int .i64 0, .str [], .str [], .str [], .int .i64 0, .nils, .str [], .str [], .int .i64 0, .str [98], .int .i64 3, .bool false, .bool false, .bool false, .int .i64 0, .int .i64 0, .int .i64 0, .str [], .str [], .str [], .int .i64 0, .nils, .str [], .str [], .int .i64 0] 164 0 0 1,
   .cells [.str [], .str [97], .int .i64 2, .str [], .str [98], .int .i64 3] 128 0 0 1,
   .cells [.int .i64 2, .int .i64 1, .str [], .int .i64 3, .int .i64 0, .str [120]] 30 0 0 1,
   .cells [.int .i64 2, .int .i64 2, .str [], .int .i64 3, .int .i64 0, .str [121]] 30 0 0 1,
   .cells [.int .i64 2, .int .i64 3, .str [], .int .i64 3, .int .i64 0, .str [120]] 30 0 0 1,
   .cells [.int .i64 1, .slice 7 0 2 2 3, .int .i64 3, .slice 9 0 2 2 3, .int .i64 0, .nils] 93 0 0 1]⟩
theorem KDl_ok : KnownOk Tryz.prog KDl := known_of (K := [KP0,KDo,KI1,KI2,KI3,KQ1,KS1,KQ2,KS2,KQ3,KS3]) (kcons KP0_ok (kcons KDo_ok (kcons KI1_ok (kcons KI2_ok (kcons KI3_ok (kcons KQ1_ok (kcons KS1_ok (kcons KQ2_ok (kcons KS2_ok (kcons KQ3_ok (kcons KS3_ok (knil _)))))))))))) (by kernel_rfl) (ψ := [0,1,2,3,4,5,6,7,8,9,19]) (n := 1000000) (by kernel_rfl)
end Go.Abs
