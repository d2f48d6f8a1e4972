/- These functions are the program's, part 1: each by the kernel. No condition. -/
import Derived.Test.YtmigfpedabokcaaGreatDoorCo2
import Derived.Test.YtmigfpedabokcaaGreatDoorProg
import Derived.KernelRfl
set_option linter.unusedVariables false
set_option linter.unusedSimpArgs false
namespace Go.Cg.Law
open Go.Proofs
theorem c3 : compFunc Tryz.prog dyn e3 Tryz.f3 = some a3 := by kernel_rfl
theorem c7 : compFunc Tryz.prog dyn e7 Tryz.f7 = some a7 := by kernel_rfl
theorem c10 : compFunc Tryz.prog dyn e10 Tryz.f10 = some a10 := by kernel_rfl
theorem c13 : compFunc Tryz.prog dyn e13 Tryz.f13 = some a13 := by kernel_rfl
theorem c17 : compFunc Tryz.prog dyn e17 Tryz.f17 = some a17 := by kernel_rfl
theorem c23 : compFunc Tryz.prog dyn e23 Tryz.f23 = some a23 := by kernel_rfl
theorem c26 : compFunc Tryz.prog dyn e26 Tryz.f26 = some a26 := by kernel_rfl
theorem c31 : compFunc Tryz.prog dyn e31 Tryz.f31 = some a31 := by kernel_rfl
theorem c35 : compFunc Tryz.prog dyn e35 Tryz.f35 = some a35 := by kernel_rfl
theorem c38 : compFunc Tryz.prog dyn e38 Tryz.f38 = some a38 := by kernel_rfl
theorem c42 : compFunc Tryz.prog dyn e42 Tryz.f42 = some a42 := by kernel_rfl
theorem c50 : compFunc Tryz.prog dyn e50 Tryz.f50 = some a50 := by kernel_rfl
theorem c53 : compFunc Tryz.prog dyn e53 Tryz.f53 = some a53 := by kernel_rfl
theorem c56 : compFunc Tryz.prog dyn e56 Tryz.f56 = some a56 := by kernel_rfl
theorem c59 : compFunc Tryz.prog dyn e59 Tryz.f59 = some a59 := by kernel_rfl
theorem c62 : compFunc Tryz.prog dyn e62 Tryz.f62 = some a62 := by kernel_rfl
theorem c65 : compFunc Tryz.prog dyn e65 Tryz.f65 = some a65 := by kernel_rfl
theorem c70 : compFunc Tryz.prog dyn e70 Tryz.f70 = some a70 := by kernel_rfl
theorem c73 : compFunc Tryz.prog dyn e73 Tryz.f73 = some a73 := by kernel_rfl
theorem c76 : compFunc Tryz.prog dyn e76 Tryz.f76 = some a76 := by kernel_rfl
theorem c80 : compFunc Tryz.prog dyn e80 Tryz.f80 = some a80 := by kernel_rfl
theorem c83 : compFunc Tryz.prog dyn e83 Tryz.f83 = some a83 := by kernel_rfl
theorem c91 : compFunc Tryz.prog dyn e91 Tryz.f91 = some a91 := by kernel_rfl
theorem c95 : compFunc Tryz.prog dyn e95 Tryz.f95 = some a95 := by kernel_rfl
theorem c98 : compFunc Tryz.prog dyn e98 Tryz.f98 = some a98 := by kernel_rfl
theorem c102 : compFunc Tryz.prog dyn e102 Tryz.f102 = some a102 := by kernel_rfl
theorem c106 : compFunc Tryz.prog dyn e106 Tryz.f106 = some a106 := by kernel_rfl
theorem c116 : compFunc Tryz.prog dyn e116 Tryz.f116 = some a116 := by kernel_rfl
theorem c119 : compFunc Tryz.prog dyn e119 Tryz.f119 = some a119 := by kernel_rfl
theorem c124 : compFunc Tryz.prog dyn e124 Tryz.f124 = some a124 := by kernel_rfl
theorem c127 : compFunc Tryz.prog dyn e127 Tryz.f127 = some a127 := by kernel_rfl
theorem c130 : compFunc Tryz.prog dyn e130 Tryz.f130 = some a130 := by kernel_rfl
theorem c133 : compFunc Tryz.prog dyn e133 Tryz.f133 = some a133 := by kernel_rfl
theorem c136 : compFunc Tryz.prog dyn e136 Tryz.f136 = some a136 := by kernel_rfl
theorem c146 : compFunc Tryz.prog dyn e146 Tryz.f146 = some a146 := by kernel_rfl
theorem c149 : compFunc Tryz.prog dyn e149 Tryz.f149 = some a149 := by kernel_rfl
theorem c153 : compFunc Tryz.prog dyn e153 Tryz.f153 = some a153 := by kernel_rfl
theorem c156 : compFunc Tryz.prog dyn e156 Tryz.f156 = some a156 := by kernel_rfl
theorem c159 : compFunc Tryz.prog dyn e159 Tryz.f159 = some a159 := by kernel_rfl
theorem c165 : compFunc Tryz.prog dyn e165 Tryz.f165 = some a165 := by kernel_rfl
theorem c172 : compFunc Tryz.prog dyn e172 Tryz.f172 = some a172 := by kernel_rfl
theorem c175 : compFunc Tryz.prog dyn e175 Tryz.f175 = some a175 := by kernel_rfl
theorem c180 : compFunc Tryz.prog dyn e180 Tryz.f180 = some a180 := by kernel_rfl
theorem c183 : compFunc Tryz.prog dyn e183 Tryz.f183 = some a183 := by kernel_rfl
theorem c186 : compFunc Tryz.prog dyn e186 Tryz.f186 = some a186 := by kernel_rfl
theorem c189 : compFunc Tryz.prog dyn e189 Tryz.f189 = some a189 := by kernel_rfl
theorem c194 : compFunc Tryz.prog dyn e194 Tryz.f194 = some a194 := by kernel_rfl
theorem c199 : compFunc Tryz.prog dyn e199 Tryz.f199 = some a199 := by kernel_rfl
theorem c206 : compFunc Tryz.prog dyn e206 Tryz.f206 = some a206 := by kernel_rfl
theorem c209 : compFunc Tryz.prog dyn e209 Tryz.f209 = some a209 := by kernel_rfl
theorem c212 : compFunc Tryz.prog dyn e212 Tryz.f212 = some a212 := by kernel_rfl
theorem c215 : compFunc Tryz.prog dyn e215 Tryz.f215 = some a215 := by kernel_rfl
theorem c224 : compFunc Tryz.prog dyn e224 Tryz.f224 = some a224 := by kernel_rfl
theorem c229 : compFunc Tryz.prog dyn e229 Tryz.f229 = some a229 := by kernel_rfl
theorem c236 : compFunc Tryz.prog dyn e236 Tryz.f236 = some a236 := by kernel_rfl
theorem c242 : compFunc Tryz.prog dyn e242 Tryz.f242 = some a242 := by kernel_rfl
theorem c250 : compFunc Tryz.prog dyn e250 Tryz.f250 = some a250 := by kernel_rfl
theorem c261 : compFunc Tryz.prog dyn e261 Tryz.f261 = some a261 := by kernel_rfl
theorem c268 : compFunc Tryz.prog dyn e268 Tryz.f268 = some a268 := by kernel_rfl
theorem c285 : compFunc Tryz.prog dyn e285 Tryz.f285 = some a285 := by kernel_rfl
theorem c305 : compFunc Tryz.prog dyn e305 Tryz.f305 = some a305 := by kernel_rfl
theorem c354 : compFunc Tryz.prog dyn e354 Tryz.f354 = some a354 := by kernel_rfl
theorem c357 : compFunc Tryz.prog dyn e357 Tryz.f357 = some a357 := by kernel_rfl
theorem c360 : compFunc Tryz.prog dyn e360 Tryz.f360 = some a360 := by kernel_rfl
theorem c364 : compFunc Tryz.prog dyn e364 Tryz.f364 = some a364 := by kernel_rfl
theorem c397 : compFunc Tryz.prog dyn e397 Tryz.f397 = some a397 := by kernel_rfl
end Go.Cg.Law
