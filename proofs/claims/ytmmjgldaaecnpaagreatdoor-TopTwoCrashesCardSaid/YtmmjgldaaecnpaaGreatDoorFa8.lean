/- The closed facts of the row of TopTwoCrashes, each by the kernel. Part 8. No condition. -/
import Derived.Test.YtmmjgldaaecnpaaGreatDoorRows
import Derived.JoinedOf
import Derived.KernelRfl
import Derived.Test.YtmmjgldaaecnpaaGreatDoorFa0
import Derived.SevenTiedAt
namespace Go.Proofs.YtmmjgldaaecnpaaGreatDoor.topTwoCrashes
open Go
theorem t3 : false = c.goesBy P := by kernel_rfl
theorem t4 : (fn.params.all fun u => !P.wantsStandIn u) = true := by kernel_rfl
end Go.Proofs.YtmmjgldaaecnpaaGreatDoor.topTwoCrashes
