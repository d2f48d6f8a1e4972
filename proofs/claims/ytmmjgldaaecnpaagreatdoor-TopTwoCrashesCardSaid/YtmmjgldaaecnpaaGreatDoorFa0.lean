/- The closed facts of the row of TopTwoCrashes, each by the kernel. Part 0. No condition. -/
import Derived.Test.YtmmjgldaaecnpaaGreatDoorRows
import Derived.JoinedOf
import Derived.KernelRfl
namespace Go.Proofs.YtmmjgldaaecnpaaGreatDoor.topTwoCrashes
open Go
noncomputable abbrev P : Program := Tryz.prog
abbrev f : FuncId := 3
noncomputable abbrev fn : Func := Tryz.f3
abbrev s : ChangeSpec := Rows.topTwoCrashesSpec
noncomputable abbrev c : OpenClaim := Rows.topTwoCrashesRow
theorem band {a b : Bool} (h : a = true) (k : b = true) : (a && b) = true := by rw [h, k]; rfl
end Go.Proofs.YtmmjgldaaecnpaaGreatDoor.topTwoCrashes
