/- The closed facts of the row of DaemonNone, each by the kernel. Part 2. No condition. -/
import Derived.Test.YtlkfdkpkhkinfaaGreatDoorRows
import Derived.JoinedOf
import Derived.KernelRfl
import Derived.Test.YtlkfdkpkhkinfaaGreatDoorFa0
namespace Go.Proofs.YtlkfdkpkhkinfaaGreatDoor.daemonNone
open Go
theorem q8 : ((P.stopKnobs == [])) = true := by kernel_rfl
theorem q9 : ((c.inPlace == P.inPlace f)) = true := by kernel_rfl
end Go.Proofs.YtlkfdkpkhkinfaaGreatDoor.daemonNone
