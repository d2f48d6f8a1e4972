/- The closed facts of the row of TopTwoCrashes, each by the kernel. Part 2. No condition. -/
import Derived.Test.YtmmjgldaaecnpaaGreatDoorRows
import Derived.JoinedOf
import Derived.KernelRfl
import Derived.Test.YtmmjgldaaecnpaaGreatDoorFa0
namespace Go.Proofs.YtmmjgldaaecnpaaGreatDoor.topTwoCrashes
open Go
theorem q8 : ((P.stopKnobs == [])) = true := by kernel_rfl
theorem q9 : ((c.inPlace == P.inPlace f)) = true := by kernel_rfl
end Go.Proofs.YtmmjgldaaecnpaaGreatDoor.topTwoCrashes
