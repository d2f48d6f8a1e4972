/- The closed facts of the row of DaemonNone, each by the kernel. Part 3. No condition. -/
import Derived.Test.YtlkfdkpkhkinfaaGreatDoorRows
import Derived.JoinedOf
import Derived.KernelRfl
import Derived.Test.YtlkfdkpkhkinfaaGreatDoorFa0
namespace Go.Proofs.YtlkfdkpkhkinfaaGreatDoor.daemonNone
open Go
theorem q10 : ((c.unfollowed == P.unfollowed f)) = true := by kernel_rfl
theorem q11 : ((c.recurses == P.recurses f)) = true := by kernel_rfl
end Go.Proofs.YtlkfdkpkhkinfaaGreatDoor.daemonNone
