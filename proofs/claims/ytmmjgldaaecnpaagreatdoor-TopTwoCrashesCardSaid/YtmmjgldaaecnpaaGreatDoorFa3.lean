/- The closed facts of the row of TopTwoCrashes, each by the kernel. Part 3. No condition. -/
import Derived.Test.YtmmjgldaaecnpaaGreatDoorRows
import Derived.JoinedOf
import Derived.KernelRfl
import Derived.Test.YtmmjgldaaecnpaaGreatDoorFa0
namespace Go.Proofs.YtmmjgldaaecnpaaGreatDoor.topTwoCrashes
open Go
theorem q10 : ((c.unfollowed == P.unfollowed f)) = true := by kernel_rfl
theorem q11 : ((c.recurses == P.recurses f)) = true := by kernel_rfl
end Go.Proofs.YtmmjgldaaecnpaaGreatDoor.topTwoCrashes
