/- The closed facts of the row of TopSearch, each by the kernel. Part 7. No condition. -/
import Derived.Test.YtkbpbhflndliaaaGreatDoorRows
import Derived.JoinedOf
import Derived.KernelRfl
import Derived.Test.YtkbpbhflndliaaaGreatDoorFa0
import Derived.SevenTiedAt
namespace Go.Proofs.YtkbpbhflndliaaaGreatDoor.topSearch
open Go
theorem t2 : true = P.looks [] := by kernel_rfl
end Go.Proofs.YtkbpbhflndliaaaGreatDoor.topSearch
