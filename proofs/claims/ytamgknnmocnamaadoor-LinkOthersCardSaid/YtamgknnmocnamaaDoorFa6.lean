/- The closed facts of the row of LinkOthers, each by the kernel. Part 6. No condition. -/
import Derived.Test.YtamgknnmocnamaaDoorRows
import Derived.JoinedOf
import Derived.KernelRfl
import Derived.Test.YtamgknnmocnamaaDoorFa0
import Derived.SevenTiedAt
namespace Go.Proofs.YtamgknnmocnamaaDoor.linkOthers
open Go
theorem t0 : c.wfByText (OpenSpec.ofChange s) = true := by kernel_rfl
theorem t1 : P.mainIs = some (true, ("aa27b08c577acecbdbe3192b7d27716d652f3b8434f359c689c3434aa6aeea20" : String).toList) := by kernel_rfl
end Go.Proofs.YtamgknnmocnamaaDoor.linkOthers
