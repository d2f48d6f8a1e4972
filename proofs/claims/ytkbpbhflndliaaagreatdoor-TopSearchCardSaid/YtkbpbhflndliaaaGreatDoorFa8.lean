/- The closed facts of the row of TopSearch, each by the kernel. Part 8. No condition. -/
import Derived.Test.YtkbpbhflndliaaaGreatDoorRows
import Derived.JoinedOf
import Derived.KernelRfl
import Derived.Test.YtkbpbhflndliaaaGreatDoorFa0
import Derived.SevenTiedAt
namespace Go.Proofs.YtkbpbhflndliaaaGreatDoor.topSearch
open Go
theorem t3 : false = c.goesBy P := by kernel_rfl
theorem t4 : (fn.params.all fun u => !P.wantsStandIn u) = true := by kernel_rfl
end Go.Proofs.YtkbpbhflndliaaaGreatDoor.topSearch
