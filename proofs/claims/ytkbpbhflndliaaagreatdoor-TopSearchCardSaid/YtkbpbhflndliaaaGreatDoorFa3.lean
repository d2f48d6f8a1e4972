/- The closed facts of the row of TopSearch, each by the kernel. Part 3. No condition. -/
import Derived.Test.YtkbpbhflndliaaaGreatDoorRows
import Derived.JoinedOf
import Derived.KernelRfl
import Derived.Test.YtkbpbhflndliaaaGreatDoorFa0
namespace Go.Proofs.YtkbpbhflndliaaaGreatDoor.topSearch
open Go
theorem q10 : ((c.unfollowed == P.unfollowed f)) = true := by kernel_rfl
theorem q11 : ((c.recurses == P.recurses f)) = true := by kernel_rfl
end Go.Proofs.YtkbpbhflndliaaaGreatDoor.topSearch
