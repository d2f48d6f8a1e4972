/- The closed facts of the row of TopInvalidate, each by the kernel. Part 6. No condition. -/
import Derived.Test.YtmigfpedabokcaaGreatDoorRows
import Derived.JoinedOf
import Derived.KernelRfl
import Derived.Test.YtmigfpedabokcaaGreatDoorFa0
import Derived.SevenTiedAt
namespace Go.Proofs.YtmigfpedabokcaaGreatDoor.topInvalidate
open Go
theorem t0 : c.wfByText (OpenSpec.ofChange s) = true := by kernel_rfl
theorem t1 : P.mainIs = some (true, ("bfa87ad9746ce138932cd51932c8fee165073fd924e3c81146e6d0523619d17c" : String).toList) := by kernel_rfl
end Go.Proofs.YtmigfpedabokcaaGreatDoor.topInvalidate
