/- The closed facts of the row of LinkOthers, each by the kernel. Part 1. No condition. -/
import Derived.Test.YtamgknnmocnamaaDoorRows
import Derived.JoinedOf
import Derived.KernelRfl
import Derived.Test.YtamgknnmocnamaaDoorFa0
namespace Go.Proofs.YtamgknnmocnamaaDoor.linkOthers
open Go
theorem q0 : (c.wf (OpenSpec.ofChange s)) = true := by kernel_rfl
theorem q1 : (laidOutB P) = true := by kernel_rfl
theorem q2 : (mapsRowed P) = true := by kernel_rfl
theorem q3 : (fn.params.all (P.readableRec ·)) = true := by kernel_rfl
theorem q4 : (namedTie P c.named s.vars) = true := by kernel_rfl
theorem q5 : ((c.stops == [])) = true := by kernel_rfl
theorem q6 : ((P.stops == [])) = true := by kernel_rfl
theorem q7 : ((c.knobs == [])) = true := by kernel_rfl
end Go.Proofs.YtamgknnmocnamaaDoor.linkOthers
