/- The closed facts of the row of LinkOthers, each by the kernel. Part 0. No condition. -/
import Derived.Test.YtamgknnmocnamaaDoorRows
import Derived.JoinedOf
import Derived.KernelRfl
namespace Go.Proofs.YtamgknnmocnamaaDoor.linkOthers
open Go
noncomputable abbrev P : Program := Tryd.prog
abbrev f : FuncId := 4
noncomputable abbrev fn : Func := Tryd.f4
abbrev s : ChangeSpec := Rows.linkOthersSpec
noncomputable abbrev c : OpenClaim := Rows.linkOthersRow
theorem band {a b : Bool} (h : a = true) (k : b = true) : (a && b) = true := by rw [h, k]; rfl
end Go.Proofs.YtamgknnmocnamaaDoor.linkOthers
