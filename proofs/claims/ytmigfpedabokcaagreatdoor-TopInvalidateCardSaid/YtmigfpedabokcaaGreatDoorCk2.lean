/- These functions are the program's, part 2: each by the kernel. No condition. -/
import Derived.Test.YtmigfpedabokcaaGreatDoorCo2
import Derived.Test.YtmigfpedabokcaaGreatDoorProg
import Derived.KernelRfl
set_option linter.unusedVariables false
set_option linter.unusedSimpArgs false
namespace Go.Cg.Law
open Go.Proofs
theorem c4 : compFunc Tryz.prog dyn e4 Tryz.f4 = some a4 := by kernel_rfl
theorem c8 : compFunc Tryz.prog dyn e8 Tryz.f8 = some a8 := by kernel_rfl
theorem c11 : compFunc Tryz.prog dyn e11 Tryz.f11 = some a11 := by kernel_rfl
theorem c14 : compFunc Tryz.prog dyn e14 Tryz.f14 = some a14 := by kernel_rfl
theorem c21 : compFunc Tryz.prog dyn e21 Tryz.f21 = some a21 := by kernel_rfl
theorem c24 : compFunc Tryz.prog dyn e24 Tryz.f24 = some a24 := by kernel_rfl
theorem c29 : compFunc Tryz.prog dyn e29 Tryz.f29 = some a29 := by kernel_rfl
theorem c32 : compFunc Tryz.prog dyn e32 Tryz.f32 = some a32 := by kernel_rfl
theorem c36 : compFunc Tryz.prog dyn e36 Tryz.f36 = some a36 := by kernel_rfl
theorem c39 : compFunc Tryz.prog dyn e39 Tryz.f39 = some a39 := by kernel_rfl
theorem c48 : compFunc Tryz.prog dyn e48 Tryz.f48 = some a48 := by kernel_rfl
theorem c51 : compFunc Tryz.prog dyn e51 Tryz.f51 = some a51 := by kernel_rfl
theorem c54 : compFunc Tryz.prog dyn e54 Tryz.f54 = some a54 := by kernel_rfl
theorem c57 : compFunc Tryz.prog dyn e57 Tryz.f57 = some a57 := by kernel_rfl
theorem c60 : compFunc Tryz.prog dyn e60 Tryz.f60 = some a60 := by kernel_rfl
theorem c63 : compFunc Tryz.prog dyn e63 Tryz.f63 = some a63 := by kernel_rfl
theorem c66 : compFunc Tryz.prog dyn e66 Tryz.f66 = some a66 := by kernel_rfl
theorem c71 : compFunc Tryz.prog dyn e71 Tryz.f71 = some a71 := by kernel_rfl
theorem c74 : compFunc Tryz.prog dyn e74 Tryz.f74 = some a74 := by kernel_rfl
theorem c77 : compFunc Tryz.prog dyn e77 Tryz.f77 = some a77 := by kernel_rfl
theorem c81 : compFunc Tryz.prog dyn e81 Tryz.f81 = some a81 := by kernel_rfl
theorem c84 : compFunc Tryz.prog dyn e84 Tryz.f84 = some a84 := by kernel_rfl
theorem c92 : compFunc Tryz.prog dyn e92 Tryz.f92 = some a92 := by kernel_rfl
theorem c96 : compFunc Tryz.prog dyn e96 Tryz.f96 = some a96 := by kernel_rfl
theorem c100 : compFunc Tryz.prog dyn e100 Tryz.f100 = some a100 := by kernel_rfl
theorem c104 : compFunc Tryz.prog dyn e104 Tryz.f104 = some a104 := by kernel_rfl
theorem c107 : compFunc Tryz.prog dyn e107 Tryz.f107 = some a107 := by kernel_rfl
theorem c117 : compFunc Tryz.prog dyn e117 Tryz.f117 = some a117 := by kernel_rfl
theorem c120 : compFunc Tryz.prog dyn e120 Tryz.f120 = some a120 := by kernel_rfl
theorem c125 : compFunc Tryz.prog dyn e125 Tryz.f125 = some a125 := by kernel_rfl
theorem c128 : compFunc Tryz.prog dyn e128 Tryz.f128 = some a128 := by kernel_rfl
theorem c131 : compFunc Tryz.prog dyn e131 Tryz.f131 = some a131 := by kernel_rfl
theorem c134 : compFunc Tryz.prog dyn e134 Tryz.f134 = some a134 := by kernel_rfl
theorem c144 : compFunc Tryz.prog dyn e144 Tryz.f144 = some a144 := by kernel_rfl
theorem c147 : compFunc Tryz.prog dyn e147 Tryz.f147 = some a147 := by kernel_rfl
theorem c150 : compFunc Tryz.prog dyn e150 Tryz.f150 = some a150 := by kernel_rfl
theorem c154 : compFunc Tryz.prog dyn e154 Tryz.f154 = some a154 := by kernel_rfl
theorem c157 : compFunc Tryz.prog dyn e157 Tryz.f157 = some a157 := by kernel_rfl
theorem c160 : compFunc Tryz.prog dyn e160 Tryz.f160 = some a160 := by kernel_rfl
theorem c166 : compFunc Tryz.prog dyn e166 Tryz.f166 = some a166 := by kernel_rfl
theorem c173 : compFunc Tryz.prog dyn e173 Tryz.f173 = some a173 := by kernel_rfl
theorem c176 : compFunc Tryz.prog dyn e176 Tryz.f176 = some a176 := by kernel_rfl
theorem c181 : compFunc Tryz.prog dyn e181 Tryz.f181 = some a181 := by kernel_rfl
theorem c184 : compFunc Tryz.prog dyn e184 Tryz.f184 = some a184 := by kernel_rfl
theorem c187 : compFunc Tryz.prog dyn e187 Tryz.f187 = some a187 := by kernel_rfl
theorem c192 : compFunc Tryz.prog dyn e192 Tryz.f192 = some a192 := by kernel_rfl
theorem c195 : compFunc Tryz.prog dyn e195 Tryz.f195 = some a195 := by kernel_rfl
theorem c200 : compFunc Tryz.prog dyn e200 Tryz.f200 = some a200 := by kernel_rfl
theorem c207 : compFunc Tryz.prog dyn e207 Tryz.f207 = some a207 := by kernel_rfl
theorem c210 : compFunc Tryz.prog dyn e210 Tryz.f210 = some a210 := by kernel_rfl
theorem c213 : compFunc Tryz.prog dyn e213 Tryz.f213 = some a213 := by kernel_rfl
theorem c216 : compFunc Tryz.prog dyn e216 Tryz.f216 = some a216 := by kernel_rfl
theorem c226 : compFunc Tryz.prog dyn e226 Tryz.f226 = some a226 := by kernel_rfl
theorem c234 : compFunc Tryz.prog dyn e234 Tryz.f234 = some a234 := by kernel_rfl
theorem c240 : compFunc Tryz.prog dyn e240 Tryz.f240 = some a240 := by kernel_rfl
theorem c243 : compFunc Tryz.prog dyn e243 Tryz.f243 = some a243 := by kernel_rfl
theorem c256 : compFunc Tryz.prog dyn e256 Tryz.f256 = some a256 := by kernel_rfl
theorem c266 : compFunc Tryz.prog dyn e266 Tryz.f266 = some a266 := by kernel_rfl
theorem c281 : compFunc Tryz.prog dyn e281 Tryz.f281 = some a281 := by kernel_rfl
theorem c286 : compFunc Tryz.prog dyn e286 Tryz.f286 = some a286 := by kernel_rfl
theorem c319 : compFunc Tryz.prog dyn e319 Tryz.f319 = some a319 := by kernel_rfl
theorem c355 : compFunc Tryz.prog dyn e355 Tryz.f355 = some a355 := by kernel_rfl
theorem c358 : compFunc Tryz.prog dyn e358 Tryz.f358 = some a358 := by kernel_rfl
theorem c361 : compFunc Tryz.prog dyn e361 Tryz.f361 = some a361 := by kernel_rfl
theorem c368 : compFunc Tryz.prog dyn e368 Tryz.f368 = some a368 := by kernel_rfl
theorem c424 : compFunc Tryz.prog dyn e424 Tryz.f424 = some a424 := by kernel_rfl
end Go.Cg.Law
