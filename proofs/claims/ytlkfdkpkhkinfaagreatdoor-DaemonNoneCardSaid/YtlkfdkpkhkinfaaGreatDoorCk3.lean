/- These functions are the program's, part 3: each by the kernel. No condition. -/
import Derived.Test.YtlkfdkpkhkinfaaGreatDoorCo2
import Derived.Test.YtlkfdkpkhkinfaaGreatDoorProg
import Derived.KernelRfl
set_option linter.unusedVariables false
set_option linter.unusedSimpArgs false
namespace Go.Cg.Law
open Go.Proofs
theorem c5 : compFunc Tryz.prog dyn e5 Tryz.f5 = some a5 := by kernel_rfl
theorem c8 : compFunc Tryz.prog dyn e8 Tryz.f8 = some a8 := by kernel_rfl
theorem c11 : compFunc Tryz.prog dyn e11 Tryz.f11 = some a11 := by kernel_rfl
theorem c14 : compFunc Tryz.prog dyn e14 Tryz.f14 = some a14 := by kernel_rfl
theorem c17 : compFunc Tryz.prog dyn e17 Tryz.f17 = some a17 := by kernel_rfl
theorem c21 : compFunc Tryz.prog dyn e21 Tryz.f21 = some a21 := by kernel_rfl
theorem c25 : compFunc Tryz.prog dyn e25 Tryz.f25 = some a25 := by kernel_rfl
theorem c28 : compFunc Tryz.prog dyn e28 Tryz.f28 = some a28 := by kernel_rfl
theorem c31 : compFunc Tryz.prog dyn e31 Tryz.f31 = some a31 := by kernel_rfl
theorem c34 : compFunc Tryz.prog dyn e34 Tryz.f34 = some a34 := by kernel_rfl
theorem c37 : compFunc Tryz.prog dyn e37 Tryz.f37 = some a37 := by kernel_rfl
theorem c44 : compFunc Tryz.prog dyn e44 Tryz.f44 = some a44 := by kernel_rfl
theorem c50 : compFunc Tryz.prog dyn e50 Tryz.f50 = some a50 := by kernel_rfl
theorem c53 : compFunc Tryz.prog dyn e53 Tryz.f53 = some a53 := by kernel_rfl
theorem c57 : compFunc Tryz.prog dyn e57 Tryz.f57 = some a57 := by kernel_rfl
theorem c61 : compFunc Tryz.prog dyn e61 Tryz.f61 = some a61 := by kernel_rfl
theorem c64 : compFunc Tryz.prog dyn e64 Tryz.f64 = some a64 := by kernel_rfl
theorem c67 : compFunc Tryz.prog dyn e67 Tryz.f67 = some a67 := by kernel_rfl
theorem c72 : compFunc Tryz.prog dyn e72 Tryz.f72 = some a72 := by kernel_rfl
theorem c76 : compFunc Tryz.prog dyn e76 Tryz.f76 = some a76 := by kernel_rfl
theorem c80 : compFunc Tryz.prog dyn e80 Tryz.f80 = some a80 := by kernel_rfl
theorem c83 : compFunc Tryz.prog dyn e83 Tryz.f83 = some a83 := by kernel_rfl
theorem c88 : compFunc Tryz.prog dyn e88 Tryz.f88 = some a88 := by kernel_rfl
theorem c91 : compFunc Tryz.prog dyn e91 Tryz.f91 = some a91 := by kernel_rfl
theorem c94 : compFunc Tryz.prog dyn e94 Tryz.f94 = some a94 := by kernel_rfl
theorem c97 : compFunc Tryz.prog dyn e97 Tryz.f97 = some a97 := by kernel_rfl
theorem c100 : compFunc Tryz.prog dyn e100 Tryz.f100 = some a100 := by kernel_rfl
theorem c103 : compFunc Tryz.prog dyn e103 Tryz.f103 = some a103 := by kernel_rfl
theorem c108 : compFunc Tryz.prog dyn e108 Tryz.f108 = some a108 := by kernel_rfl
theorem c115 : compFunc Tryz.prog dyn e115 Tryz.f115 = some a115 := by kernel_rfl
theorem c123 : compFunc Tryz.prog dyn e123 Tryz.f123 = some a123 := by kernel_rfl
theorem c126 : compFunc Tryz.prog dyn e126 Tryz.f126 = some a126 := by kernel_rfl
theorem c133 : compFunc Tryz.prog dyn e133 Tryz.f133 = some a133 := by kernel_rfl
theorem c138 : compFunc Tryz.prog dyn e138 Tryz.f138 = some a138 := by kernel_rfl
theorem c141 : compFunc Tryz.prog dyn e141 Tryz.f141 = some a141 := by kernel_rfl
theorem c144 : compFunc Tryz.prog dyn e144 Tryz.f144 = some a144 := by kernel_rfl
theorem c147 : compFunc Tryz.prog dyn e147 Tryz.f147 = some a147 := by kernel_rfl
theorem c150 : compFunc Tryz.prog dyn e150 Tryz.f150 = some a150 := by kernel_rfl
theorem c153 : compFunc Tryz.prog dyn e153 Tryz.f153 = some a153 := by kernel_rfl
theorem c158 : compFunc Tryz.prog dyn e158 Tryz.f158 = some a158 := by kernel_rfl
theorem c161 : compFunc Tryz.prog dyn e161 Tryz.f161 = some a161 := by kernel_rfl
theorem c166 : compFunc Tryz.prog dyn e166 Tryz.f166 = some a166 := by kernel_rfl
theorem c173 : compFunc Tryz.prog dyn e173 Tryz.f173 = some a173 := by kernel_rfl
theorem c184 : compFunc Tryz.prog dyn e184 Tryz.f184 = some a184 := by kernel_rfl
theorem c188 : compFunc Tryz.prog dyn e188 Tryz.f188 = some a188 := by kernel_rfl
theorem c199 : compFunc Tryz.prog dyn e199 Tryz.f199 = some a199 := by kernel_rfl
theorem c205 : compFunc Tryz.prog dyn e205 Tryz.f205 = some a205 := by kernel_rfl
theorem c211 : compFunc Tryz.prog dyn e211 Tryz.f211 = some a211 := by kernel_rfl
theorem c214 : compFunc Tryz.prog dyn e214 Tryz.f214 = some a214 := by kernel_rfl
theorem c221 : compFunc Tryz.prog dyn e221 Tryz.f221 = some a221 := by kernel_rfl
theorem c227 : compFunc Tryz.prog dyn e227 Tryz.f227 = some a227 := by kernel_rfl
theorem c236 : compFunc Tryz.prog dyn e236 Tryz.f236 = some a236 := by kernel_rfl
theorem c262 : compFunc Tryz.prog dyn e262 Tryz.f262 = some a262 := by kernel_rfl
theorem c267 : compFunc Tryz.prog dyn e267 Tryz.f267 = some a267 := by kernel_rfl
theorem c280 : compFunc Tryz.prog dyn e280 Tryz.f280 = some a280 := by kernel_rfl
theorem c288 : compFunc Tryz.prog dyn e288 Tryz.f288 = some a288 := by kernel_rfl
theorem c343 : compFunc Tryz.prog dyn e343 Tryz.f343 = some a343 := by kernel_rfl
theorem c350 : compFunc Tryz.prog dyn e350 Tryz.f350 = some a350 := by kernel_rfl
theorem c353 : compFunc Tryz.prog dyn e353 Tryz.f353 = some a353 := by kernel_rfl
theorem c362 : compFunc Tryz.prog dyn e362 Tryz.f362 = some a362 := by kernel_rfl
theorem c440 : compFunc Tryz.prog dyn e440 Tryz.f440 = some a440 := by kernel_rfl
end Go.Cg.Law
