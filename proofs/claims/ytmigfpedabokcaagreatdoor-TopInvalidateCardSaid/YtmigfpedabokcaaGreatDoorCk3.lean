/- These functions are the program's, part 3: each by the kernel. No condition. -/
import Derived.Test.YtmigfpedabokcaaGreatDoorCo2
import Derived.Test.YtmigfpedabokcaaGreatDoorProg
import Derived.KernelRfl
set_option linter.unusedVariables false
set_option linter.unusedSimpArgs false
namespace Go.Cg.Law
open Go.Proofs
theorem c6 : compFunc Tryz.prog dyn e6 Tryz.f6 = some a6 := by kernel_rfl
theorem c9 : compFunc Tryz.prog dyn e9 Tryz.f9 = some a9 := by kernel_rfl
theorem c12 : compFunc Tryz.prog dyn e12 Tryz.f12 = some a12 := by kernel_rfl
theorem c15 : compFunc Tryz.prog dyn e15 Tryz.f15 = some a15 := by kernel_rfl
theorem c22 : compFunc Tryz.prog dyn e22 Tryz.f22 = some a22 := by kernel_rfl
theorem c25 : compFunc Tryz.prog dyn e25 Tryz.f25 = some a25 := by kernel_rfl
theorem c30 : compFunc Tryz.prog dyn e30 Tryz.f30 = some a30 := by kernel_rfl
theorem c33 : compFunc Tryz.prog dyn e33 Tryz.f33 = some a33 := by kernel_rfl
theorem c37 : compFunc Tryz.prog dyn e37 Tryz.f37 = some a37 := by kernel_rfl
theorem c41 : compFunc Tryz.prog dyn e41 Tryz.f41 = some a41 := by kernel_rfl
theorem c49 : compFunc Tryz.prog dyn e49 Tryz.f49 = some a49 := by kernel_rfl
theorem c52 : compFunc Tryz.prog dyn e52 Tryz.f52 = some a52 := by kernel_rfl
theorem c55 : compFunc Tryz.prog dyn e55 Tryz.f55 = some a55 := by kernel_rfl
theorem c58 : compFunc Tryz.prog dyn e58 Tryz.f58 = some a58 := by kernel_rfl
theorem c61 : compFunc Tryz.prog dyn e61 Tryz.f61 = some a61 := by kernel_rfl
theorem c64 : compFunc Tryz.prog dyn e64 Tryz.f64 = some a64 := by kernel_rfl
theorem c67 : compFunc Tryz.prog dyn e67 Tryz.f67 = some a67 := by kernel_rfl
theorem c72 : compFunc Tryz.prog dyn e72 Tryz.f72 = some a72 := by kernel_rfl
theorem c75 : compFunc Tryz.prog dyn e75 Tryz.f75 = some a75 := by kernel_rfl
theorem c78 : compFunc Tryz.prog dyn e78 Tryz.f78 = some a78 := by kernel_rfl
theorem c82 : compFunc Tryz.prog dyn e82 Tryz.f82 = some a82 := by kernel_rfl
theorem c90 : compFunc Tryz.prog dyn e90 Tryz.f90 = some a90 := by kernel_rfl
theorem c94 : compFunc Tryz.prog dyn e94 Tryz.f94 = some a94 := by kernel_rfl
theorem c97 : compFunc Tryz.prog dyn e97 Tryz.f97 = some a97 := by kernel_rfl
theorem c101 : compFunc Tryz.prog dyn e101 Tryz.f101 = some a101 := by kernel_rfl
theorem c105 : compFunc Tryz.prog dyn e105 Tryz.f105 = some a105 := by kernel_rfl
theorem c115 : compFunc Tryz.prog dyn e115 Tryz.f115 = some a115 := by kernel_rfl
theorem c118 : compFunc Tryz.prog dyn e118 Tryz.f118 = some a118 := by kernel_rfl
theorem c121 : compFunc Tryz.prog dyn e121 Tryz.f121 = some a121 := by kernel_rfl
theorem c126 : compFunc Tryz.prog dyn e126 Tryz.f126 = some a126 := by kernel_rfl
theorem c129 : compFunc Tryz.prog dyn e129 Tryz.f129 = some a129 := by kernel_rfl
theorem c132 : compFunc Tryz.prog dyn e132 Tryz.f132 = some a132 := by kernel_rfl
theorem c135 : compFunc Tryz.prog dyn e135 Tryz.f135 = some a135 := by kernel_rfl
theorem c145 : compFunc Tryz.prog dyn e145 Tryz.f145 = some a145 := by kernel_rfl
theorem c148 : compFunc Tryz.prog dyn e148 Tryz.f148 = some a148 := by kernel_rfl
theorem c151 : compFunc Tryz.prog dyn e151 Tryz.f151 = some a151 := by kernel_rfl
theorem c155 : compFunc Tryz.prog dyn e155 Tryz.f155 = some a155 := by kernel_rfl
theorem c158 : compFunc Tryz.prog dyn e158 Tryz.f158 = some a158 := by kernel_rfl
theorem c161 : compFunc Tryz.prog dyn e161 Tryz.f161 = some a161 := by kernel_rfl
theorem c167 : compFunc Tryz.prog dyn e167 Tryz.f167 = some a167 := by kernel_rfl
theorem c174 : compFunc Tryz.prog dyn e174 Tryz.f174 = some a174 := by kernel_rfl
theorem c179 : compFunc Tryz.prog dyn e179 Tryz.f179 = some a179 := by kernel_rfl
theorem c182 : compFunc Tryz.prog dyn e182 Tryz.f182 = some a182 := by kernel_rfl
theorem c185 : compFunc Tryz.prog dyn e185 Tryz.f185 = some a185 := by kernel_rfl
theorem c188 : compFunc Tryz.prog dyn e188 Tryz.f188 = some a188 := by kernel_rfl
theorem c193 : compFunc Tryz.prog dyn e193 Tryz.f193 = some a193 := by kernel_rfl
theorem c198 : compFunc Tryz.prog dyn e198 Tryz.f198 = some a198 := by kernel_rfl
theorem c202 : compFunc Tryz.prog dyn e202 Tryz.f202 = some a202 := by kernel_rfl
theorem c208 : compFunc Tryz.prog dyn e208 Tryz.f208 = some a208 := by kernel_rfl
theorem c211 : compFunc Tryz.prog dyn e211 Tryz.f211 = some a211 := by kernel_rfl
theorem c214 : compFunc Tryz.prog dyn e214 Tryz.f214 = some a214 := by kernel_rfl
theorem c218 : compFunc Tryz.prog dyn e218 Tryz.f218 = some a218 := by kernel_rfl
theorem c228 : compFunc Tryz.prog dyn e228 Tryz.f228 = some a228 := by kernel_rfl
theorem c235 : compFunc Tryz.prog dyn e235 Tryz.f235 = some a235 := by kernel_rfl
theorem c241 : compFunc Tryz.prog dyn e241 Tryz.f241 = some a241 := by kernel_rfl
theorem c244 : compFunc Tryz.prog dyn e244 Tryz.f244 = some a244 := by kernel_rfl
theorem c260 : compFunc Tryz.prog dyn e260 Tryz.f260 = some a260 := by kernel_rfl
theorem c267 : compFunc Tryz.prog dyn e267 Tryz.f267 = some a267 := by kernel_rfl
theorem c284 : compFunc Tryz.prog dyn e284 Tryz.f284 = some a284 := by kernel_rfl
theorem c302 : compFunc Tryz.prog dyn e302 Tryz.f302 = some a302 := by kernel_rfl
theorem c352 : compFunc Tryz.prog dyn e352 Tryz.f352 = some a352 := by kernel_rfl
theorem c356 : compFunc Tryz.prog dyn e356 Tryz.f356 = some a356 := by kernel_rfl
theorem c359 : compFunc Tryz.prog dyn e359 Tryz.f359 = some a359 := by kernel_rfl
theorem c362 : compFunc Tryz.prog dyn e362 Tryz.f362 = some a362 := by kernel_rfl
theorem c392 : compFunc Tryz.prog dyn e392 Tryz.f392 = some a392 := by kernel_rfl
end Go.Cg.Law
