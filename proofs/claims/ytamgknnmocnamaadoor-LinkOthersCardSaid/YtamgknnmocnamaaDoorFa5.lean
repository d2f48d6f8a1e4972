/- The closed facts of the row of LinkOthers, each by the kernel. Part 5. No condition. -/
import Derived.Test.YtamgknnmocnamaaDoorRows
import Derived.JoinedOf
import Derived.KernelRfl
import Derived.Test.YtamgknnmocnamaaDoorFa1
import Derived.Test.YtamgknnmocnamaaDoorFa2
import Derived.Test.YtamgknnmocnamaaDoorFa3
import Derived.Test.YtamgknnmocnamaaDoorFa4
namespace Go.Proofs.YtamgknnmocnamaaDoor.linkOthers
open Go
set_option maxRecDepth 100000 in
theorem closed : joinedFacts P f fn s c = true := by
  unfold joinedFacts
  exact (band (band (band (band (band (band (band (band (band (band (band (band (band (band (band (band (band (band (band (band (band (band (band (band (band (band (band (band (band (band (band q0 q1) q2) q3) q4) q5) q6) q7) q8) q9) q10) q11) q12) q13) q14) q15) q16) q17) q18) q19) q20) q21) q22) q23) q24) q25) q26) q27) q28) q29) q30) q31)
end Go.Proofs.YtamgknnmocnamaaDoor.linkOthers
