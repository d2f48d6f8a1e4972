/- The closed facts of the row of LinkOthers, each by the kernel. Part 2. No condition. -/
import Derived.Test.YtamgknnmocnamaaDoorRows
import Derived.JoinedOf
import Derived.KernelRfl
import Derived.Test.YtamgknnmocnamaaDoorFa0
namespace Go.Proofs.YtamgknnmocnamaaDoor.linkOthers
open Go
theorem q8 : ((P.stopKnobs == [])) = true := by kernel_rfl
theorem q9 : ((c.inPlace == P.inPlace f)) = true := by kernel_rfl
end Go.Proofs.YtamgknnmocnamaaDoor.linkOthers
