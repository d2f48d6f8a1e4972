/- The closed facts of the row of TopInvalidate, each by the kernel. Part 3. No condition. -/
import Derived.Test.YtmigfpedabokcaaGreatDoorRows
import Derived.JoinedOf
import Derived.KernelRfl
import Derived.Test.YtmigfpedabokcaaGreatDoorFa0
namespace Go.Proofs.YtmigfpedabokcaaGreatDoor.topInvalidate
open Go
theorem q10 : ((c.unfollowed == P.unfollowed f)) = true := by kernel_rfl
theorem q11 : ((c.recurses == P.recurses f)) = true := by kernel_rfl
end Go.Proofs.YtmigfpedabokcaaGreatDoor.topInvalidate
