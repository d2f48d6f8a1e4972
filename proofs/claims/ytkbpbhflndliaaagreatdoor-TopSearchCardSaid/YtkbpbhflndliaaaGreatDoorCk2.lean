/- These functions are the program's, part 2: each by the kernel. No condition. -/
import Derived.Test.YtkbpbhflndliaaaGreatDoorCo2
import Derived.Test.YtkbpbhflndliaaaGreatDoorProg
import Derived.KernelRfl
set_option linter.unusedVariables false
set_option linter.unusedSimpArgs false
namespace Go.Cg.Law
open Go.Proofs
theorem c4 : compFunc Tryz.prog dyn e4 Tryz.f4 = some a4 := by kernel_rfl
theorem c8 : compFunc Tryz.prog dyn e8 Tryz.f8 = some a8 := by kernel_rfl
theorem c11 : compFunc Tryz.prog dyn e11 Tryz.f11 = some a11 := by kernel_rfl
theorem c14 : compFunc Tryz.prog dyn e14 Tryz.f14 = some a14 := by kernel_rfl
theorem c17 : compFunc Tryz.prog dyn e17 Tryz.f17 = some a17 := by kernel_rfl
theorem c21 : compFunc Tryz.prog dyn e21 Tryz.f21 = some a21 := by kernel_rfl
theorem c24 : compFunc Tryz.prog dyn e24 Tryz.f24 = some a24 := by kernel_rfl
theorem c27 : compFunc Tryz.prog dyn e27 Tryz.f27 = some a27 := by kernel_rfl
theorem c33 : compFunc Tryz.prog dyn e33 Tryz.f33 = some a33 := by kernel_rfl
theorem c41 : compFunc Tryz.prog dyn e41 Tryz.f41 = some a41 := by kernel_rfl
theorem c44 : compFunc Tryz.prog dyn e44 Tryz.f44 = some a44 := by kernel_rfl
theorem c47 : compFunc Tryz.prog dyn e47 Tryz.f47 = some a47 := by kernel_rfl
theorem c50 : compFunc Tryz.prog dyn e50 Tryz.f50 = some a50 := by kernel_rfl
theorem c53 : compFunc Tryz.prog dyn e53 Tryz.f53 = some a53 := by kernel_rfl
theorem c56 : compFunc Tryz.prog dyn e56 Tryz.f56 = some a56 := by kernel_rfl
theorem c59 : compFunc Tryz.prog dyn e59 Tryz.f59 = some a59 := by kernel_rfl
theorem c63 : compFunc Tryz.prog dyn e63 Tryz.f63 = some a63 := by kernel_rfl
theorem c67 : compFunc Tryz.prog dyn e67 Tryz.f67 = some a67 := by kernel_rfl
theorem c70 : compFunc Tryz.prog dyn e70 Tryz.f70 = some a70 := by kernel_rfl
theorem c76 : compFunc Tryz.prog dyn e76 Tryz.f76 = some a76 := by kernel_rfl
theorem c81 : compFunc Tryz.prog dyn e81 Tryz.f81 = some a81 := by kernel_rfl
theorem c86 : compFunc Tryz.prog dyn e86 Tryz.f86 = some a86 := by kernel_rfl
theorem c89 : compFunc Tryz.prog dyn e89 Tryz.f89 = some a89 := by kernel_rfl
theorem c92 : compFunc Tryz.prog dyn e92 Tryz.f92 = some a92 := by kernel_rfl
theorem c96 : compFunc Tryz.prog dyn e96 Tryz.f96 = some a96 := by kernel_rfl
theorem c100 : compFunc Tryz.prog dyn e100 Tryz.f100 = some a100 := by kernel_rfl
theorem c103 : compFunc Tryz.prog dyn e103 Tryz.f103 = some a103 := by kernel_rfl
theorem c107 : compFunc Tryz.prog dyn e107 Tryz.f107 = some a107 := by kernel_rfl
theorem c112 : compFunc Tryz.prog dyn e112 Tryz.f112 = some a112 := by kernel_rfl
theorem c115 : compFunc Tryz.prog dyn e115 Tryz.f115 = some a115 := by kernel_rfl
theorem c120 : compFunc Tryz.prog dyn e120 Tryz.f120 = some a120 := by kernel_rfl
theorem c134 : compFunc Tryz.prog dyn e134 Tryz.f134 = some a134 := by kernel_rfl
theorem c138 : compFunc Tryz.prog dyn e138 Tryz.f138 = some a138 := by kernel_rfl
theorem c145 : compFunc Tryz.prog dyn e145 Tryz.f145 = some a145 := by kernel_rfl
theorem c148 : compFunc Tryz.prog dyn e148 Tryz.f148 = some a148 := by kernel_rfl
theorem c151 : compFunc Tryz.prog dyn e151 Tryz.f151 = some a151 := by kernel_rfl
theorem c154 : compFunc Tryz.prog dyn e154 Tryz.f154 = some a154 := by kernel_rfl
theorem c160 : compFunc Tryz.prog dyn e160 Tryz.f160 = some a160 := by kernel_rfl
theorem c163 : compFunc Tryz.prog dyn e163 Tryz.f163 = some a163 := by kernel_rfl
theorem c166 : compFunc Tryz.prog dyn e166 Tryz.f166 = some a166 := by kernel_rfl
theorem c170 : compFunc Tryz.prog dyn e170 Tryz.f170 = some a170 := by kernel_rfl
theorem c173 : compFunc Tryz.prog dyn e173 Tryz.f173 = some a173 := by kernel_rfl
theorem c176 : compFunc Tryz.prog dyn e176 Tryz.f176 = some a176 := by kernel_rfl
theorem c180 : compFunc Tryz.prog dyn e180 Tryz.f180 = some a180 := by kernel_rfl
theorem c195 : compFunc Tryz.prog dyn e195 Tryz.f195 = some a195 := by kernel_rfl
theorem c198 : compFunc Tryz.prog dyn e198 Tryz.f198 = some a198 := by kernel_rfl
theorem c201 : compFunc Tryz.prog dyn e201 Tryz.f201 = some a201 := by kernel_rfl
theorem c205 : compFunc Tryz.prog dyn e205 Tryz.f205 = some a205 := by kernel_rfl
theorem c208 : compFunc Tryz.prog dyn e208 Tryz.f208 = some a208 := by kernel_rfl
theorem c217 : compFunc Tryz.prog dyn e217 Tryz.f217 = some a217 := by kernel_rfl
theorem c220 : compFunc Tryz.prog dyn e220 Tryz.f220 = some a220 := by kernel_rfl
theorem c226 : compFunc Tryz.prog dyn e226 Tryz.f226 = some a226 := by kernel_rfl
theorem c229 : compFunc Tryz.prog dyn e229 Tryz.f229 = some a229 := by kernel_rfl
theorem c234 : compFunc Tryz.prog dyn e234 Tryz.f234 = some a234 := by kernel_rfl
theorem c241 : compFunc Tryz.prog dyn e241 Tryz.f241 = some a241 := by kernel_rfl
theorem c252 : compFunc Tryz.prog dyn e252 Tryz.f252 = some a252 := by kernel_rfl
theorem c260 : compFunc Tryz.prog dyn e260 Tryz.f260 = some a260 := by kernel_rfl
theorem c268 : compFunc Tryz.prog dyn e268 Tryz.f268 = some a268 := by kernel_rfl
theorem c278 : compFunc Tryz.prog dyn e278 Tryz.f278 = some a278 := by kernel_rfl
theorem c301 : compFunc Tryz.prog dyn e301 Tryz.f301 = some a301 := by kernel_rfl
theorem c343 : compFunc Tryz.prog dyn e343 Tryz.f343 = some a343 := by kernel_rfl
theorem c371 : compFunc Tryz.prog dyn e371 Tryz.f371 = some a371 := by kernel_rfl
theorem c374 : compFunc Tryz.prog dyn e374 Tryz.f374 = some a374 := by kernel_rfl
theorem c380 : compFunc Tryz.prog dyn e380 Tryz.f380 = some a380 := by kernel_rfl
theorem c384 : compFunc Tryz.prog dyn e384 Tryz.f384 = some a384 := by kernel_rfl
theorem c387 : compFunc Tryz.prog dyn e387 Tryz.f387 = some a387 := by kernel_rfl
theorem c390 : compFunc Tryz.prog dyn e390 Tryz.f390 = some a390 := by kernel_rfl
theorem c394 : compFunc Tryz.prog dyn e394 Tryz.f394 = some a394 := by kernel_rfl
theorem c397 : compFunc Tryz.prog dyn e397 Tryz.f397 = some a397 := by kernel_rfl
theorem c400 : compFunc Tryz.prog dyn e400 Tryz.f400 = some a400 := by kernel_rfl
theorem c405 : compFunc Tryz.prog dyn e405 Tryz.f405 = some a405 := by kernel_rfl
theorem c434 : compFunc Tryz.prog dyn e434 Tryz.f434 = some a434 := by kernel_rfl
theorem c444 : compFunc Tryz.prog dyn e444 Tryz.f444 = some a444 := by kernel_rfl
theorem c451 : compFunc Tryz.prog dyn e451 Tryz.f451 = some a451 := by kernel_rfl
theorem c455 : compFunc Tryz.prog dyn e455 Tryz.f455 = some a455 := by kernel_rfl
end Go.Cg.Law
