/- The closed facts of the row of LinkOthers, each by the kernel. Part 3. No condition. -/
import Derived.Test.YtamgknnmocnamaaDoorRows
import Derived.JoinedOf
import Derived.KernelRfl
import Derived.Test.YtamgknnmocnamaaDoorFa0
namespace Go.Proofs.YtamgknnmocnamaaDoor.linkOthers
open Go
theorem q10 : ((c.unfollowed == P.unfollowed f)) = true := by kernel_rfl
theorem q11 : ((c.recurses == P.recurses f)) = true := by kernel_rfl
end Go.Proofs.YtamgknnmocnamaaDoor.linkOthers
