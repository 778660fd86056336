/- PROVED: what one call of the program answers, over the memory that it meets (a step of the law's run). No condition. -/
import Derived.Test.YtlkgcnpimnambaaGreatDoorQd
import Derived.Test.YtlkgcnpimnambaaGreatDoorProg
import Derived.Test.YtlkgcnpimnambaaGreatDoorKP0
import Derived.Test.YtlkgcnpimnambaaGreatDoorKDo
import Derived.Test.YtlkgcnpimnambaaGreatDoorKI1
import Derived.Test.YtlkgcnpimnambaaGreatDoorKI2
import Derived.Test.YtlkgcnpimnambaaGreatDoorKI3
import Derived.Test.YtlkgcnpimnambaaGreatDoorKQ1
import Derived.Test.YtlkgcnpimnambaaGreatDoorKS1
import Derived.Test.YtlkgcnpimnambaaGreatDoorKQ2
import Derived.Test.YtlkgcnpimnambaaGreatDoorKS2
import Derived.Test.YtlkgcnpimnambaaGreatDoorKQ3
import Derived.Test.YtlkgcnpimnambaaGreatDoorKS3
import Derived.Test.YtlkgcnpimnambaaGreatDoorKDl
import Derived.Test.YtlkgcnpimnambaaGreatDoorKI4
import Derived.Test.YtlkgcnpimnambaaGreatDoorKQ4
import Derived.Test.YtlkgcnpimnambaaGreatDoorKS4
namespace Go.Abs
open Go Go.Proofs
def KW22 : Known := ⟨17, [], [], .bool true, []⟩
theorem KW22_ok : KnownOk Tryz.prog KW22 := known_of (K := [KP0,KDo,KI1,KI2,KI3,KQ1,KS1,KQ2,KS2,KQ3,KS3,KDl,KI4,KQ4,KS4]) (kcons KP0_ok (kcons KDo_ok (kcons KI1_ok (kcons KI2_ok (kcons KI3_ok (kcons KQ1_ok (kcons KS1_ok (kcons KQ2_ok (kcons KS2_ok (kcons KQ3_ok (kcons KS3_ok (kcons KDl_ok (kcons KI4_ok (kcons KQ4_ok (kcons KS4_ok (knil _)))))))))))))))) (by kernel_rfl) (ψ := []) (n := 1000000) (by kernel_rfl)
end Go.Abs
