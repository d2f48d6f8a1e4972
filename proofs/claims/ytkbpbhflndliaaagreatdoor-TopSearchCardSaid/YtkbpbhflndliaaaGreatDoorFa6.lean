/- The closed facts of the row of TopSearch, each by the kernel. Part 6. No condition. -/
import Derived.Test.YtkbpbhflndliaaaGreatDoorRows
import Derived.JoinedOf
import Derived.KernelRfl
import Derived.Test.YtkbpbhflndliaaaGreatDoorFa0
import Derived.SevenTiedAt
namespace Go.Proofs.YtkbpbhflndliaaaGreatDoor.topSearch
open Go
theorem t0 : c.wfByText (OpenSpec.ofChange s) = true := by kernel_rfl
theorem t1 : P.mainIs = some (true, ("3645531574303ab78068265497d979b95dcb18d50c42b8181e71488e886f8031" : String).toList) := by kernel_rfl
end Go.Proofs.YtkbpbhflndliaaaGreatDoor.topSearch
