/- These functions are the program's, part 3: each by the kernel. No condition. -/
import Derived.Test.YtkbpbhflndliaaaGreatDoorCo2
import Derived.Test.YtkbpbhflndliaaaGreatDoorProg
import Derived.KernelRfl
set_option linter.unusedVariables false
set_option linter.unusedSimpArgs false
namespace Go.Cg.Law
open Go.Proofs
theorem c6 : compFunc Tryz.prog dyn e6 Tryz.f6 = some a6 := by kernel_rfl
theorem c9 : compFunc Tryz.prog dyn e9 Tryz.f9 = some a9 := by kernel_rfl
theorem c12 : compFunc Tryz.prog dyn e12 Tryz.f12 = some a12 := by kernel_rfl
theorem c15 : compFunc Tryz.prog dyn e15 Tryz.f15 = some a15 := by kernel_rfl
theorem c18 : compFunc Tryz.prog dyn e18 Tryz.f18 = some a18 := by kernel_rfl
theorem c22 : compFunc Tryz.prog dyn e22 Tryz.f22 = some a22 := by kernel_rfl
theorem c25 : compFunc Tryz.prog dyn e25 Tryz.f25 = some a25 := by kernel_rfl
theorem c29 : compFunc Tryz.prog dyn e29 Tryz.f29 = some a29 := by kernel_rfl
theorem c34 : compFunc Tryz.prog dyn e34 Tryz.f34 = some a34 := by kernel_rfl
theorem c42 : compFunc Tryz.prog dyn e42 Tryz.f42 = some a42 := by kernel_rfl
theorem c45 : compFunc Tryz.prog dyn e45 Tryz.f45 = some a45 := by kernel_rfl
theorem c48 : compFunc Tryz.prog dyn e48 Tryz.f48 = some a48 := by kernel_rfl
theorem c51 : compFunc Tryz.prog dyn e51 Tryz.f51 = some a51 := by kernel_rfl
theorem c54 : compFunc Tryz.prog dyn e54 Tryz.f54 = some a54 := by kernel_rfl
theorem c57 : compFunc Tryz.prog dyn e57 Tryz.f57 = some a57 := by kernel_rfl
theorem c61 : compFunc Tryz.prog dyn e61 Tryz.f61 = some a61 := by kernel_rfl
theorem c64 : compFunc Tryz.prog dyn e64 Tryz.f64 = some a64 := by kernel_rfl
theorem c68 : compFunc Tryz.prog dyn e68 Tryz.f68 = some a68 := by kernel_rfl
theorem c74 : compFunc Tryz.prog dyn e74 Tryz.f74 = some a74 := by kernel_rfl
theorem c77 : compFunc Tryz.prog dyn e77 Tryz.f77 = some a77 := by kernel_rfl
theorem c84 : compFunc Tryz.prog dyn e84 Tryz.f84 = some a84 := by kernel_rfl
theorem c87 : compFunc Tryz.prog dyn e87 Tryz.f87 = some a87 := by kernel_rfl
theorem c90 : compFunc Tryz.prog dyn e90 Tryz.f90 = some a90 := by kernel_rfl
theorem c94 : compFunc Tryz.prog dyn e94 Tryz.f94 = some a94 := by kernel_rfl
theorem c97 : compFunc Tryz.prog dyn e97 Tryz.f97 = some a97 := by kernel_rfl
theorem c101 : compFunc Tryz.prog dyn e101 Tryz.f101 = some a101 := by kernel_rfl
theorem c105 : compFunc Tryz.prog dyn e105 Tryz.f105 = some a105 := by kernel_rfl
theorem c108 : compFunc Tryz.prog dyn e108 Tryz.f108 = some a108 := by kernel_rfl
theorem c113 : compFunc Tryz.prog dyn e113 Tryz.f113 = some a113 := by kernel_rfl
theorem c118 : compFunc Tryz.prog dyn e118 Tryz.f118 = some a118 := by kernel_rfl
theorem c123 : compFunc Tryz.prog dyn e123 Tryz.f123 = some a123 := by kernel_rfl
theorem c135 : compFunc Tryz.prog dyn e135 Tryz.f135 = some a135 := by kernel_rfl
theorem c141 : compFunc Tryz.prog dyn e141 Tryz.f141 = some a141 := by kernel_rfl
theorem c146 : compFunc Tryz.prog dyn e146 Tryz.f146 = some a146 := by kernel_rfl
theorem c149 : compFunc Tryz.prog dyn e149 Tryz.f149 = some a149 := by kernel_rfl
theorem c152 : compFunc Tryz.prog dyn e152 Tryz.f152 = some a152 := by kernel_rfl
theorem c156 : compFunc Tryz.prog dyn e156 Tryz.f156 = some a156 := by kernel_rfl
theorem c161 : compFunc Tryz.prog dyn e161 Tryz.f161 = some a161 := by kernel_rfl
theorem c164 : compFunc Tryz.prog dyn e164 Tryz.f164 = some a164 := by kernel_rfl
theorem c167 : compFunc Tryz.prog dyn e167 Tryz.f167 = some a167 := by kernel_rfl
theorem c171 : compFunc Tryz.prog dyn e171 Tryz.f171 = some a171 := by kernel_rfl
theorem c174 : compFunc Tryz.prog dyn e174 Tryz.f174 = some a174 := by kernel_rfl
theorem c177 : compFunc Tryz.prog dyn e177 Tryz.f177 = some a177 := by kernel_rfl
theorem c181 : compFunc Tryz.prog dyn e181 Tryz.f181 = some a181 := by kernel_rfl
theorem c196 : compFunc Tryz.prog dyn e196 Tryz.f196 = some a196 := by kernel_rfl
theorem c199 : compFunc Tryz.prog dyn e199 Tryz.f199 = some a199 := by kernel_rfl
theorem c202 : compFunc Tryz.prog dyn e202 Tryz.f202 = some a202 := by kernel_rfl
theorem c206 : compFunc Tryz.prog dyn e206 Tryz.f206 = some a206 := by kernel_rfl
theorem c209 : compFunc Tryz.prog dyn e209 Tryz.f209 = some a209 := by kernel_rfl
theorem c218 : compFunc Tryz.prog dyn e218 Tryz.f218 = some a218 := by kernel_rfl
theorem c224 : compFunc Tryz.prog dyn e224 Tryz.f224 = some a224 := by kernel_rfl
theorem c227 : compFunc Tryz.prog dyn e227 Tryz.f227 = some a227 := by kernel_rfl
theorem c230 : compFunc Tryz.prog dyn e230 Tryz.f230 = some a230 := by kernel_rfl
theorem c237 : compFunc Tryz.prog dyn e237 Tryz.f237 = some a237 := by kernel_rfl
theorem c245 : compFunc Tryz.prog dyn e245 Tryz.f245 = some a245 := by kernel_rfl
theorem c253 : compFunc Tryz.prog dyn e253 Tryz.f253 = some a253 := by kernel_rfl
theorem c262 : compFunc Tryz.prog dyn e262 Tryz.f262 = some a262 := by kernel_rfl
theorem c269 : compFunc Tryz.prog dyn e269 Tryz.f269 = some a269 := by kernel_rfl
theorem c280 : compFunc Tryz.prog dyn e280 Tryz.f280 = some a280 := by kernel_rfl
theorem c319 : compFunc Tryz.prog dyn e319 Tryz.f319 = some a319 := by kernel_rfl
theorem c369 : compFunc Tryz.prog dyn e369 Tryz.f369 = some a369 := by kernel_rfl
theorem c372 : compFunc Tryz.prog dyn e372 Tryz.f372 = some a372 := by kernel_rfl
theorem c375 : compFunc Tryz.prog dyn e375 Tryz.f375 = some a375 := by kernel_rfl
theorem c382 : compFunc Tryz.prog dyn e382 Tryz.f382 = some a382 := by kernel_rfl
theorem c385 : compFunc Tryz.prog dyn e385 Tryz.f385 = some a385 := by kernel_rfl
theorem c388 : compFunc Tryz.prog dyn e388 Tryz.f388 = some a388 := by kernel_rfl
theorem c392 : compFunc Tryz.prog dyn e392 Tryz.f392 = some a392 := by kernel_rfl
theorem c395 : compFunc Tryz.prog dyn e395 Tryz.f395 = some a395 := by kernel_rfl
theorem c398 : compFunc Tryz.prog dyn e398 Tryz.f398 = some a398 := by kernel_rfl
theorem c401 : compFunc Tryz.prog dyn e401 Tryz.f401 = some a401 := by kernel_rfl
theorem c408 : compFunc Tryz.prog dyn e408 Tryz.f408 = some a408 := by kernel_rfl
theorem c441 : compFunc Tryz.prog dyn e441 Tryz.f441 = some a441 := by kernel_rfl
theorem c446 : compFunc Tryz.prog dyn e446 Tryz.f446 = some a446 := by kernel_rfl
theorem c452 : compFunc Tryz.prog dyn e452 Tryz.f452 = some a452 := by kernel_rfl
theorem c456 : compFunc Tryz.prog dyn e456 Tryz.f456 = some a456 := by kernel_rfl
end Go.Cg.Law
