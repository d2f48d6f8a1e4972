/- The closed facts of the row of TopTwoCrashes, each by the kernel. Part 6. No condition. -/
import Derived.Test.YtmmjgldaaecnpaaGreatDoorRows
import Derived.JoinedOf
import Derived.KernelRfl
import Derived.Test.YtmmjgldaaecnpaaGreatDoorFa0
import Derived.SevenTiedAt
namespace Go.Proofs.YtmmjgldaaecnpaaGreatDoor.topTwoCrashes
open Go
theorem t0 : c.wfByText (OpenSpec.ofChange s) = true := by kernel_rfl
theorem t1 : P.mainIs = some (true, ("c13f4bd7e20950c4c82e3c1e938eb32b4f1a9552fc9c22cf558c07202690ae0a" : String).toList) := by kernel_rfl
end Go.Proofs.YtmmjgldaaecnpaaGreatDoor.topTwoCrashes
