/- The closed facts of the row of TopInvalidate, each by the kernel. Part 7. No condition. -/
import Derived.Test.YtmigfpedabokcaaGreatDoorRows
import Derived.JoinedOf
import Derived.KernelRfl
import Derived.Test.YtmigfpedabokcaaGreatDoorFa0
import Derived.SevenTiedAt
namespace Go.Proofs.YtmigfpedabokcaaGreatDoor.topInvalidate
open Go
theorem t2 : true = P.looks [] := by kernel_rfl
end Go.Proofs.YtmigfpedabokcaaGreatDoor.topInvalidate
