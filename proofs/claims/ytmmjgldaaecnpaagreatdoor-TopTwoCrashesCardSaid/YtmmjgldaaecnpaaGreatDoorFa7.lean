/- The closed facts of the row of TopTwoCrashes, each by the kernel. Part 7. No condition. -/
import Derived.Test.YtmmjgldaaecnpaaGreatDoorRows
import Derived.JoinedOf
import Derived.KernelRfl
import Derived.Test.YtmmjgldaaecnpaaGreatDoorFa0
import Derived.SevenTiedAt
namespace Go.Proofs.YtmmjgldaaecnpaaGreatDoor.topTwoCrashes
open Go
theorem t2 : true = P.looks [] := by kernel_rfl
end Go.Proofs.YtmmjgldaaecnpaaGreatDoor.topTwoCrashes
