/- These functions are the program's, part 1: each by the kernel. No condition. -/
import Derived.Test.YtkbpbhflndliaaaGreatDoorCo2
import Derived.Test.YtkbpbhflndliaaaGreatDoorProg
import Derived.KernelRfl
set_option linter.unusedVariables false
set_option linter.unusedSimpArgs false
namespace Go.Cg.Law
open Go.Proofs
theorem c3 : compFunc Tryz.prog dyn e3 Tryz.f3 = some a3 := by kernel_rfl
theorem c7 : compFunc Tryz.prog dyn e7 Tryz.f7 = some a7 := by kernel_rfl
theorem c10 : compFunc Tryz.prog dyn e10 Tryz.f10 = some a10 := by kernel_rfl
theorem c13 : compFunc Tryz.prog dyn e13 Tryz.f13 = some a13 := by kernel_rfl
theorem c16 : compFunc Tryz.prog dyn e16 Tryz.f16 = some a16 := by kernel_rfl
theorem c20 : compFunc Tryz.prog dyn e20 Tryz.f20 = some a20 := by kernel_rfl
theorem c23 : compFunc Tryz.prog dyn e23 Tryz.f23 = some a23 := by kernel_rfl
theorem c26 : compFunc Tryz.prog dyn e26 Tryz.f26 = some a26 := by kernel_rfl
theorem c30 : compFunc Tryz.prog dyn e30 Tryz.f30 = some a30 := by kernel_rfl
theorem c40 : compFunc Tryz.prog dyn e40 Tryz.f40 = some a40 := by kernel_rfl
theorem c43 : compFunc Tryz.prog dyn e43 Tryz.f43 = some a43 := by kernel_rfl
theorem c46 : compFunc Tryz.prog dyn e46 Tryz.f46 = some a46 := by kernel_rfl
theorem c49 : compFunc Tryz.prog dyn e49 Tryz.f49 = some a49 := by kernel_rfl
theorem c52 : compFunc Tryz.prog dyn e52 Tryz.f52 = some a52 := by kernel_rfl
theorem c55 : compFunc Tryz.prog dyn e55 Tryz.f55 = some a55 := by kernel_rfl
theorem c58 : compFunc Tryz.prog dyn e58 Tryz.f58 = some a58 := by kernel_rfl
theorem c62 : compFunc Tryz.prog dyn e62 Tryz.f62 = some a62 := by kernel_rfl
theorem c65 : compFunc Tryz.prog dyn e65 Tryz.f65 = some a65 := by kernel_rfl
theorem c69 : compFunc Tryz.prog dyn e69 Tryz.f69 = some a69 := by kernel_rfl
theorem c75 : compFunc Tryz.prog dyn e75 Tryz.f75 = some a75 := by kernel_rfl
theorem c80 : compFunc Tryz.prog dyn e80 Tryz.f80 = some a80 := by kernel_rfl
theorem c85 : compFunc Tryz.prog dyn e85 Tryz.f85 = some a85 := by kernel_rfl
theorem c88 : compFunc Tryz.prog dyn e88 Tryz.f88 = some a88 := by kernel_rfl
theorem c91 : compFunc Tryz.prog dyn e91 Tryz.f91 = some a91 := by kernel_rfl
theorem c95 : compFunc Tryz.prog dyn e95 Tryz.f95 = some a95 := by kernel_rfl
theorem c99 : compFunc Tryz.prog dyn e99 Tryz.f99 = some a99 := by kernel_rfl
theorem c102 : compFunc Tryz.prog dyn e102 Tryz.f102 = some a102 := by kernel_rfl
theorem c106 : compFunc Tryz.prog dyn e106 Tryz.f106 = some a106 := by kernel_rfl
theorem c110 : compFunc Tryz.prog dyn e110 Tryz.f110 = some a110 := by kernel_rfl
theorem c114 : compFunc Tryz.prog dyn e114 Tryz.f114 = some a114 := by kernel_rfl
theorem c119 : compFunc Tryz.prog dyn e119 Tryz.f119 = some a119 := by kernel_rfl
theorem c132 : compFunc Tryz.prog dyn e132 Tryz.f132 = some a132 := by kernel_rfl
theorem c137 : compFunc Tryz.prog dyn e137 Tryz.f137 = some a137 := by kernel_rfl
theorem c142 : compFunc Tryz.prog dyn e142 Tryz.f142 = some a142 := by kernel_rfl
theorem c147 : compFunc Tryz.prog dyn e147 Tryz.f147 = some a147 := by kernel_rfl
theorem c150 : compFunc Tryz.prog dyn e150 Tryz.f150 = some a150 := by kernel_rfl
theorem c153 : compFunc Tryz.prog dyn e153 Tryz.f153 = some a153 := by kernel_rfl
theorem c158 : compFunc Tryz.prog dyn e158 Tryz.f158 = some a158 := by kernel_rfl
theorem c162 : compFunc Tryz.prog dyn e162 Tryz.f162 = some a162 := by kernel_rfl
theorem c165 : compFunc Tryz.prog dyn e165 Tryz.f165 = some a165 := by kernel_rfl
theorem c168 : compFunc Tryz.prog dyn e168 Tryz.f168 = some a168 := by kernel_rfl
theorem c172 : compFunc Tryz.prog dyn e172 Tryz.f172 = some a172 := by kernel_rfl
theorem c175 : compFunc Tryz.prog dyn e175 Tryz.f175 = some a175 := by kernel_rfl
theorem c179 : compFunc Tryz.prog dyn e179 Tryz.f179 = some a179 := by kernel_rfl
theorem c184 : compFunc Tryz.prog dyn e184 Tryz.f184 = some a184 := by kernel_rfl
theorem c197 : compFunc Tryz.prog dyn e197 Tryz.f197 = some a197 := by kernel_rfl
theorem c200 : compFunc Tryz.prog dyn e200 Tryz.f200 = some a200 := by kernel_rfl
theorem c203 : compFunc Tryz.prog dyn e203 Tryz.f203 = some a203 := by kernel_rfl
theorem c207 : compFunc Tryz.prog dyn e207 Tryz.f207 = some a207 := by kernel_rfl
theorem c211 : compFunc Tryz.prog dyn e211 Tryz.f211 = some a211 := by kernel_rfl
theorem c219 : compFunc Tryz.prog dyn e219 Tryz.f219 = some a219 := by kernel_rfl
theorem c225 : compFunc Tryz.prog dyn e225 Tryz.f225 = some a225 := by kernel_rfl
theorem c228 : compFunc Tryz.prog dyn e228 Tryz.f228 = some a228 := by kernel_rfl
theorem c231 : compFunc Tryz.prog dyn e231 Tryz.f231 = some a231 := by kernel_rfl
theorem c240 : compFunc Tryz.prog dyn e240 Tryz.f240 = some a240 := by kernel_rfl
theorem c247 : compFunc Tryz.prog dyn e247 Tryz.f247 = some a247 := by kernel_rfl
theorem c254 : compFunc Tryz.prog dyn e254 Tryz.f254 = some a254 := by kernel_rfl
theorem c263 : compFunc Tryz.prog dyn e263 Tryz.f263 = some a263 := by kernel_rfl
theorem c270 : compFunc Tryz.prog dyn e270 Tryz.f270 = some a270 := by kernel_rfl
theorem c290 : compFunc Tryz.prog dyn e290 Tryz.f290 = some a290 := by kernel_rfl
theorem c324 : compFunc Tryz.prog dyn e324 Tryz.f324 = some a324 := by kernel_rfl
theorem c370 : compFunc Tryz.prog dyn e370 Tryz.f370 = some a370 := by kernel_rfl
theorem c373 : compFunc Tryz.prog dyn e373 Tryz.f373 = some a373 := by kernel_rfl
theorem c377 : compFunc Tryz.prog dyn e377 Tryz.f377 = some a377 := by kernel_rfl
theorem c383 : compFunc Tryz.prog dyn e383 Tryz.f383 = some a383 := by kernel_rfl
theorem c386 : compFunc Tryz.prog dyn e386 Tryz.f386 = some a386 := by kernel_rfl
theorem c389 : compFunc Tryz.prog dyn e389 Tryz.f389 = some a389 := by kernel_rfl
theorem c393 : compFunc Tryz.prog dyn e393 Tryz.f393 = some a393 := by kernel_rfl
theorem c396 : compFunc Tryz.prog dyn e396 Tryz.f396 = some a396 := by kernel_rfl
theorem c399 : compFunc Tryz.prog dyn e399 Tryz.f399 = some a399 := by kernel_rfl
theorem c404 : compFunc Tryz.prog dyn e404 Tryz.f404 = some a404 := by kernel_rfl
theorem c413 : compFunc Tryz.prog dyn e413 Tryz.f413 = some a413 := by kernel_rfl
theorem c443 : compFunc Tryz.prog dyn e443 Tryz.f443 = some a443 := by kernel_rfl
theorem c447 : compFunc Tryz.prog dyn e447 Tryz.f447 = some a447 := by kernel_rfl
theorem c453 : compFunc Tryz.prog dyn e453 Tryz.f453 = some a453 := by kernel_rfl
theorem c457 : compFunc Tryz.prog dyn e457 Tryz.f457 = some a457 := by kernel_rfl
end Go.Cg.Law
