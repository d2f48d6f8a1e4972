/- The closed facts of the row of TopInvalidate, each by the kernel. Part 2. No condition. -/
import Derived.Test.YtmigfpedabokcaaGreatDoorRows
import Derived.JoinedOf
import Derived.KernelRfl
import Derived.Test.YtmigfpedabokcaaGreatDoorFa0
namespace Go.Proofs.YtmigfpedabokcaaGreatDoor.topInvalidate
open Go
theorem q8 : ((P.stopKnobs == [])) = true := by kernel_rfl
theorem q9 : ((c.inPlace == P.inPlace f)) = true := by kernel_rfl
end Go.Proofs.YtmigfpedabokcaaGreatDoor.topInvalidate
