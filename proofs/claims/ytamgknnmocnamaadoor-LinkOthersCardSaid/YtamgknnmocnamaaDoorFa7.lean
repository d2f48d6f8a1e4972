/- The closed facts of the row of LinkOthers, each by the kernel. Part 7. No condition. -/
import Derived.Test.YtamgknnmocnamaaDoorRows
import Derived.JoinedOf
import Derived.KernelRfl
import Derived.Test.YtamgknnmocnamaaDoorFa0
import Derived.SevenTiedAt
namespace Go.Proofs.YtamgknnmocnamaaDoor.linkOthers
open Go
theorem t2 : true = P.looks [] := by kernel_rfl
end Go.Proofs.YtamgknnmocnamaaDoor.linkOthers
