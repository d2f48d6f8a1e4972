/- The closed facts of the row of LinkOthers, each by the kernel. Part 8. No condition. -/
import Derived.Test.YtamgknnmocnamaaDoorRows
import Derived.JoinedOf
import Derived.KernelRfl
import Derived.Test.YtamgknnmocnamaaDoorFa0
import Derived.SevenTiedAt
namespace Go.Proofs.YtamgknnmocnamaaDoor.linkOthers
open Go
theorem t3 : false = c.goesBy P := by kernel_rfl
theorem t4 : (fn.params.all fun u => !P.wantsStandIn u) = true := by kernel_rfl
end Go.Proofs.YtamgknnmocnamaaDoor.linkOthers
