/- The closed facts of the row of LinkOthers, each by the kernel. Part 4. No condition. -/
import Derived.Test.YtamgknnmocnamaaDoorRows
import Derived.JoinedOf
import Derived.KernelRfl
import Derived.Test.YtamgknnmocnamaaDoorFa0
namespace Go.Proofs.YtamgknnmocnamaaDoor.linkOthers
open Go
theorem q12 : ((c.named == P.varsNamed f)) = true := by kernel_rfl
theorem q13 : ((c.maps == (fn.params.toList ++ s.plain.varTypes P).any (P.mapsRec ·))) = true := by kernel_rfl
theorem q14 : ((c.ifaces == (fn.params.toList ++ s.plain.varTypes P).any (P.ifacesRec ·))) = true := by kernel_rfl
theorem q15 : ((c.mapsOut == P.mapsAmong fn.resultTypes.toList)) = true := by kernel_rfl
theorem q16 : ((c.loops == (fn.params.toList ++ s.plain.varTypes P).any (P.loopsFrom ·))) = true := by kernel_rfl
theorem q17 : ((c.wideKeys == (fn.params.toList ++ s.plain.varTypes P ++ fn.resultTypes.toList).any (P.wideKeysFrom ·))) = true := by kernel_rfl
theorem q18 : (s.vars.all (P.varReadable ·)) = true := by kernel_rfl
theorem q19 : (fn.resultTypes.all (fun t => P.readableRec t && decide (t < P.types.size))) = true := by kernel_rfl
theorem q20 : ((c.ifacesOut == fn.resultTypes.toList.any (P.ifacesRec ·))) = true := by kernel_rfl
theorem q21 : ((c.loopsOut == fn.resultTypes.toList.any (P.loopsFrom ·))) = true := by kernel_rfl
theorem q22 : ((c.plainKeys == P.plainKeys)) = true := by kernel_rfl
theorem q23 : (c.shortTexts.isNone) = true := by kernel_rfl
theorem q24 : (P.stopsHeard) = true := by kernel_rfl
theorem q25 : (P.mayEnter) = true := by kernel_rfl
theorem q26 : ((c.lifted == P.liftsFinal)) = true := by kernel_rfl
theorem q27 : ((P.make == some c.make)) = true := by kernel_rfl
theorem q28 : ((c.kinds == (if c.domain.isEmpty then [] else fn.params.toList.map fun t => match P.underlying t with | some (.int k) => some k | _ => none))) = true := by kernel_rfl
theorem q29 : ((c.pinned == c.pinnedBy)) = true := by kernel_rfl
theorem q30 : ((c.veiled == (fn.params.toList ++ s.plain.varTypes P ++ fn.resultTypes.toList).any (P.veiledRec ·))) = true := by kernel_rfl
theorem q31 : (c.veiledFits P fn.params.toList (fn.params.toList ++ s.plain.varTypes P ++ fn.resultTypes.toList)) = true := by kernel_rfl
theorem named : Tryd.prog.funcNamed Rows.linkOthersRow.func = some 4 := by kernel_rfl
end Go.Proofs.YtamgknnmocnamaaDoor.linkOthers
