/- These functions are the program's, part 1: each by the kernel. No condition. -/
import Derived.Test.YtlkfdkpkhkinfaaGreatDoorCo2
import Derived.Test.YtlkfdkpkhkinfaaGreatDoorProg
import Derived.KernelRfl
set_option linter.unusedVariables false
set_option linter.unusedSimpArgs false
namespace Go.Cg.Law
open Go.Proofs
theorem c3 : compFunc Tryz.prog dyn e3 Tryz.f3 = some a3 := by kernel_rfl
theorem c6 : compFunc Tryz.prog dyn e6 Tryz.f6 = some a6 := by kernel_rfl
theorem c9 : compFunc Tryz.prog dyn e9 Tryz.f9 = some a9 := by kernel_rfl
theorem c12 : compFunc Tryz.prog dyn e12 Tryz.f12 = some a12 := by kernel_rfl
theorem c15 : compFunc Tryz.prog dyn e15 Tryz.f15 = some a15 := by kernel_rfl
theorem c18 : compFunc Tryz.prog dyn e18 Tryz.f18 = some a18 := by kernel_rfl
theorem c22 : compFunc Tryz.prog dyn e22 Tryz.f22 = some a22 := by kernel_rfl
theorem c26 : compFunc Tryz.prog dyn e26 Tryz.f26 = some a26 := by kernel_rfl
theorem c29 : compFunc Tryz.prog dyn e29 Tryz.f29 = some a29 := by kernel_rfl
theorem c32 : compFunc Tryz.prog dyn e32 Tryz.f32 = some a32 := by kernel_rfl
theorem c35 : compFunc Tryz.prog dyn e35 Tryz.f35 = some a35 := by kernel_rfl
theorem c41 : compFunc Tryz.prog dyn e41 Tryz.f41 = some a41 := by kernel_rfl
theorem c45 : compFunc Tryz.prog dyn e45 Tryz.f45 = some a45 := by kernel_rfl
theorem c51 : compFunc Tryz.prog dyn e51 Tryz.f51 = some a51 := by kernel_rfl
theorem c55 : compFunc Tryz.prog dyn e55 Tryz.f55 = some a55 := by kernel_rfl
theorem c59 : compFunc Tryz.prog dyn e59 Tryz.f59 = some a59 := by kernel_rfl
theorem c62 : compFunc Tryz.prog dyn e62 Tryz.f62 = some a62 := by kernel_rfl
theorem c65 : compFunc Tryz.prog dyn e65 Tryz.f65 = some a65 := by kernel_rfl
theorem c69 : compFunc Tryz.prog dyn e69 Tryz.f69 = some a69 := by kernel_rfl
theorem c74 : compFunc Tryz.prog dyn e74 Tryz.f74 = some a74 := by kernel_rfl
theorem c78 : compFunc Tryz.prog dyn e78 Tryz.f78 = some a78 := by kernel_rfl
theorem c81 : compFunc Tryz.prog dyn e81 Tryz.f81 = some a81 := by kernel_rfl
theorem c84 : compFunc Tryz.prog dyn e84 Tryz.f84 = some a84 := by kernel_rfl
theorem c89 : compFunc Tryz.prog dyn e89 Tryz.f89 = some a89 := by kernel_rfl
theorem c92 : compFunc Tryz.prog dyn e92 Tryz.f92 = some a92 := by kernel_rfl
theorem c95 : compFunc Tryz.prog dyn e95 Tryz.f95 = some a95 := by kernel_rfl
theorem c98 : compFunc Tryz.prog dyn e98 Tryz.f98 = some a98 := by kernel_rfl
theorem c101 : compFunc Tryz.prog dyn e101 Tryz.f101 = some a101 := by kernel_rfl
theorem c104 : compFunc Tryz.prog dyn e104 Tryz.f104 = some a104 := by kernel_rfl
theorem c109 : compFunc Tryz.prog dyn e109 Tryz.f109 = some a109 := by kernel_rfl
theorem c118 : compFunc Tryz.prog dyn e118 Tryz.f118 = some a118 := by kernel_rfl
theorem c124 : compFunc Tryz.prog dyn e124 Tryz.f124 = some a124 := by kernel_rfl
theorem c128 : compFunc Tryz.prog dyn e128 Tryz.f128 = some a128 := by kernel_rfl
theorem c134 : compFunc Tryz.prog dyn e134 Tryz.f134 = some a134 := by kernel_rfl
theorem c139 : compFunc Tryz.prog dyn e139 Tryz.f139 = some a139 := by kernel_rfl
theorem c142 : compFunc Tryz.prog dyn e142 Tryz.f142 = some a142 := by kernel_rfl
theorem c145 : compFunc Tryz.prog dyn e145 Tryz.f145 = some a145 := by kernel_rfl
theorem c148 : compFunc Tryz.prog dyn e148 Tryz.f148 = some a148 := by kernel_rfl
theorem c151 : compFunc Tryz.prog dyn e151 Tryz.f151 = some a151 := by kernel_rfl
theorem c154 : compFunc Tryz.prog dyn e154 Tryz.f154 = some a154 := by kernel_rfl
theorem c159 : compFunc Tryz.prog dyn e159 Tryz.f159 = some a159 := by kernel_rfl
theorem c164 : compFunc Tryz.prog dyn e164 Tryz.f164 = some a164 := by kernel_rfl
theorem c170 : compFunc Tryz.prog dyn e170 Tryz.f170 = some a170 := by kernel_rfl
theorem c179 : compFunc Tryz.prog dyn e179 Tryz.f179 = some a179 := by kernel_rfl
theorem c185 : compFunc Tryz.prog dyn e185 Tryz.f185 = some a185 := by kernel_rfl
theorem c194 : compFunc Tryz.prog dyn e194 Tryz.f194 = some a194 := by kernel_rfl
theorem c200 : compFunc Tryz.prog dyn e200 Tryz.f200 = some a200 := by kernel_rfl
theorem c206 : compFunc Tryz.prog dyn e206 Tryz.f206 = some a206 := by kernel_rfl
theorem c212 : compFunc Tryz.prog dyn e212 Tryz.f212 = some a212 := by kernel_rfl
theorem c215 : compFunc Tryz.prog dyn e215 Tryz.f215 = some a215 := by kernel_rfl
theorem c225 : compFunc Tryz.prog dyn e225 Tryz.f225 = some a225 := by kernel_rfl
theorem c228 : compFunc Tryz.prog dyn e228 Tryz.f228 = some a228 := by kernel_rfl
theorem c237 : compFunc Tryz.prog dyn e237 Tryz.f237 = some a237 := by kernel_rfl
theorem c265 : compFunc Tryz.prog dyn e265 Tryz.f265 = some a265 := by kernel_rfl
theorem c275 : compFunc Tryz.prog dyn e275 Tryz.f275 = some a275 := by kernel_rfl
theorem c281 : compFunc Tryz.prog dyn e281 Tryz.f281 = some a281 := by kernel_rfl
theorem c308 : compFunc Tryz.prog dyn e308 Tryz.f308 = some a308 := by kernel_rfl
theorem c348 : compFunc Tryz.prog dyn e348 Tryz.f348 = some a348 := by kernel_rfl
theorem c351 : compFunc Tryz.prog dyn e351 Tryz.f351 = some a351 := by kernel_rfl
theorem c354 : compFunc Tryz.prog dyn e354 Tryz.f354 = some a354 := by kernel_rfl
theorem c386 : compFunc Tryz.prog dyn e386 Tryz.f386 = some a386 := by kernel_rfl
end Go.Cg.Law
