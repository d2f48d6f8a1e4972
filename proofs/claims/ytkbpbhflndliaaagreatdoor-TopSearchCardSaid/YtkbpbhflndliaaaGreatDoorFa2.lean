/- The closed facts of the row of TopSearch, each by the kernel. Part 2. No condition. -/
import Derived.Test.YtkbpbhflndliaaaGreatDoorRows
import Derived.JoinedOf
import Derived.KernelRfl
import Derived.Test.YtkbpbhflndliaaaGreatDoorFa0
namespace Go.Proofs.YtkbpbhflndliaaaGreatDoor.topSearch
open Go
theorem q8 : ((P.stopKnobs == [])) = true := by kernel_rfl
theorem q9 : ((c.inPlace == P.inPlace f)) = true := by kernel_rfl
end Go.Proofs.YtkbpbhflndliaaaGreatDoor.topSearch
