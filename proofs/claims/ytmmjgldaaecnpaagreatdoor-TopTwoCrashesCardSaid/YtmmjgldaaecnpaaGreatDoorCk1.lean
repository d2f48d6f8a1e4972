/- These functions are the program's, part 1: each by the kernel. No condition. -/
import Derived.Test.YtmmjgldaaecnpaaGreatDoorCo2
import Derived.Test.YtmmjgldaaecnpaaGreatDoorProg
import Derived.KernelRfl
set_option linter.unusedVariables false
set_option linter.unusedSimpArgs false
namespace Go.Cg.Law
open Go.Proofs
theorem c3 : compFunc Tryz.prog dyn e3 Tryz.f3 = some a3 := by kernel_rfl
theorem c7 : compFunc Tryz.prog dyn e7 Tryz.f7 = some a7 := by kernel_rfl
theorem c10 : compFunc Tryz.prog dyn e10 Tryz.f10 = some a10 := by kernel_rfl
theorem c13 : compFunc Tryz.prog dyn e13 Tryz.f13 = some a13 := by kernel_rfl
theorem c16 : compFunc Tryz.prog dyn e16 Tryz.f16 = some a16 := by kernel_rfl
theorem c23 : compFunc Tryz.prog dyn e23 Tryz.f23 = some a23 := by kernel_rfl
theorem c30 : compFunc Tryz.prog dyn e30 Tryz.f30 = some a30 := by kernel_rfl
theorem c33 : compFunc Tryz.prog dyn e33 Tryz.f33 = some a33 := by kernel_rfl
theorem c37 : compFunc Tryz.prog dyn e37 Tryz.f37 = some a37 := by kernel_rfl
theorem c40 : compFunc Tryz.prog dyn e40 Tryz.f40 = some a40 := by kernel_rfl
theorem c49 : compFunc Tryz.prog dyn e49 Tryz.f49 = some a49 := by kernel_rfl
theorem c52 : compFunc Tryz.prog dyn e52 Tryz.f52 = some a52 := by kernel_rfl
theorem c57 : compFunc Tryz.prog dyn e57 Tryz.f57 = some a57 := by kernel_rfl
theorem c60 : compFunc Tryz.prog dyn e60 Tryz.f60 = some a60 := by kernel_rfl
theorem c63 : compFunc Tryz.prog dyn e63 Tryz.f63 = some a63 := by kernel_rfl
theorem c66 : compFunc Tryz.prog dyn e66 Tryz.f66 = some a66 := by kernel_rfl
theorem c71 : compFunc Tryz.prog dyn e71 Tryz.f71 = some a71 := by kernel_rfl
theorem c76 : compFunc Tryz.prog dyn e76 Tryz.f76 = some a76 := by kernel_rfl
theorem c79 : compFunc Tryz.prog dyn e79 Tryz.f79 = some a79 := by kernel_rfl
theorem c85 : compFunc Tryz.prog dyn e85 Tryz.f85 = some a85 := by kernel_rfl
theorem c96 : compFunc Tryz.prog dyn e96 Tryz.f96 = some a96 := by kernel_rfl
theorem c99 : compFunc Tryz.prog dyn e99 Tryz.f99 = some a99 := by kernel_rfl
theorem c103 : compFunc Tryz.prog dyn e103 Tryz.f103 = some a103 := by kernel_rfl
theorem c108 : compFunc Tryz.prog dyn e108 Tryz.f108 = some a108 := by kernel_rfl
theorem c121 : compFunc Tryz.prog dyn e121 Tryz.f121 = some a121 := by kernel_rfl
theorem c126 : compFunc Tryz.prog dyn e126 Tryz.f126 = some a126 := by kernel_rfl
theorem c129 : compFunc Tryz.prog dyn e129 Tryz.f129 = some a129 := by kernel_rfl
theorem c132 : compFunc Tryz.prog dyn e132 Tryz.f132 = some a132 := by kernel_rfl
theorem c137 : compFunc Tryz.prog dyn e137 Tryz.f137 = some a137 := by kernel_rfl
theorem c150 : compFunc Tryz.prog dyn e150 Tryz.f150 = some a150 := by kernel_rfl
theorem c154 : compFunc Tryz.prog dyn e154 Tryz.f154 = some a154 := by kernel_rfl
theorem c157 : compFunc Tryz.prog dyn e157 Tryz.f157 = some a157 := by kernel_rfl
theorem c160 : compFunc Tryz.prog dyn e160 Tryz.f160 = some a160 := by kernel_rfl
theorem c168 : compFunc Tryz.prog dyn e168 Tryz.f168 = some a168 := by kernel_rfl
theorem c177 : compFunc Tryz.prog dyn e177 Tryz.f177 = some a177 := by kernel_rfl
theorem c182 : compFunc Tryz.prog dyn e182 Tryz.f182 = some a182 := by kernel_rfl
theorem c185 : compFunc Tryz.prog dyn e185 Tryz.f185 = some a185 := by kernel_rfl
theorem c188 : compFunc Tryz.prog dyn e188 Tryz.f188 = some a188 := by kernel_rfl
theorem c193 : compFunc Tryz.prog dyn e193 Tryz.f193 = some a193 := by kernel_rfl
theorem c201 : compFunc Tryz.prog dyn e201 Tryz.f201 = some a201 := by kernel_rfl
theorem c210 : compFunc Tryz.prog dyn e210 Tryz.f210 = some a210 := by kernel_rfl
theorem c213 : compFunc Tryz.prog dyn e213 Tryz.f213 = some a213 := by kernel_rfl
theorem c225 : compFunc Tryz.prog dyn e225 Tryz.f225 = some a225 := by kernel_rfl
theorem c236 : compFunc Tryz.prog dyn e236 Tryz.f236 = some a236 := by kernel_rfl
theorem c267 : compFunc Tryz.prog dyn e267 Tryz.f267 = some a267 := by kernel_rfl
theorem c320 : compFunc Tryz.prog dyn e320 Tryz.f320 = some a320 := by kernel_rfl
theorem c356 : compFunc Tryz.prog dyn e356 Tryz.f356 = some a356 := by kernel_rfl
theorem c359 : compFunc Tryz.prog dyn e359 Tryz.f359 = some a359 := by kernel_rfl
theorem c365 : compFunc Tryz.prog dyn e365 Tryz.f365 = some a365 := by kernel_rfl
theorem c398 : compFunc Tryz.prog dyn e398 Tryz.f398 = some a398 := by kernel_rfl
end Go.Cg.Law
