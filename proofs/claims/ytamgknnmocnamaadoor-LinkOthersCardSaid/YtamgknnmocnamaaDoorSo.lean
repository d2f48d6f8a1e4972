/- The evaluator's table of this program is sound. No condition. -/
import Derived.Test.YtamgknnmocnamaaDoorSd5
import Derived.Test.YtamgknnmocnamaaDoorCk1
import Derived.Test.YtamgknnmocnamaaDoorCk2
import Derived.Test.YtamgknnmocnamaaDoorCk3
import Derived.Test.YtamgknnmocnamaaDoorLa
set_option linter.unusedVariables false
set_option linter.unusedSimpArgs false
set_option linter.unusedSectionVars false
namespace Go.Cg.Law
open Go.Proofs
variable [Syms]
theorem s4 : FuncSound Tryd.prog dyn p4 a4 := ⟨Tryd.f4, e4, Tryd.func4, by kernel_rfl, c4⟩
theorem s16 : FuncSound Tryd.prog dyn p16 a16 := ⟨Tryd.f16, e16, Tryd.func16, by kernel_rfl, c16⟩
theorem s17 : FuncSound Tryd.prog dyn p17 a17 := ⟨Tryd.f17, e17, Tryd.func17, by kernel_rfl, c17⟩
theorem s18 : FuncSound Tryd.prog dyn p18 a18 := ⟨Tryd.f18, e18, Tryd.func18, by kernel_rfl, c18⟩
theorem s19 : FuncSound Tryd.prog dyn p19 a19 := ⟨Tryd.f19, e19, Tryd.func19, by kernel_rfl, c19⟩
theorem s20 : FuncSound Tryd.prog dyn p20 a20 := ⟨Tryd.f20, e20, Tryd.func20, by kernel_rfl, c20⟩
theorem s21 : FuncSound Tryd.prog dyn p21 a21 := ⟨Tryd.f21, e21, Tryd.func21, by kernel_rfl, c21⟩
theorem s23 : FuncSound Tryd.prog dyn p23 a23 := ⟨Tryd.f23, e23, Tryd.func23, by kernel_rfl, c23⟩
theorem s25 : FuncSound Tryd.prog dyn p25 a25 := ⟨Tryd.f25, e25, Tryd.func25, by kernel_rfl, c25⟩
theorem s26 : FuncSound Tryd.prog dyn p26 a26 := ⟨Tryd.f26, e26, Tryd.func26, by kernel_rfl, c26⟩
theorem s27 : FuncSound Tryd.prog dyn p27 a27 := ⟨Tryd.f27, e27, Tryd.func27, by kernel_rfl, c27⟩
theorem s28 : FuncSound Tryd.prog dyn p28 a28 := ⟨Tryd.f28, e28, Tryd.func28, by kernel_rfl, c28⟩
theorem s31 : FuncSound Tryd.prog dyn p31 a31 := ⟨Tryd.f31, e31, Tryd.func31, by kernel_rfl, c31⟩
theorem s32 : FuncSound Tryd.prog dyn p32 a32 := ⟨Tryd.f32, e32, Tryd.func32, by kernel_rfl, c32⟩
theorem s33 : FuncSound Tryd.prog dyn p33 a33 := ⟨Tryd.f33, e33, Tryd.func33, by kernel_rfl, c33⟩
theorem s34 : FuncSound Tryd.prog dyn p34 a34 := ⟨Tryd.f34, e34, Tryd.func34, by kernel_rfl, c34⟩
theorem s35 : FuncSound Tryd.prog dyn p35 a35 := ⟨Tryd.f35, e35, Tryd.func35, by kernel_rfl, c35⟩
theorem s36 : FuncSound Tryd.prog dyn p36 a36 := ⟨Tryd.f36, e36, Tryd.func36, by kernel_rfl, c36⟩
theorem s37 : FuncSound Tryd.prog dyn p37 a37 := ⟨Tryd.f37, e37, Tryd.func37, by kernel_rfl, c37⟩
theorem s38 : FuncSound Tryd.prog dyn p38 a38 := ⟨Tryd.f38, e38, Tryd.func38, by kernel_rfl, c38⟩
theorem s39 : FuncSound Tryd.prog dyn p39 a39 := ⟨Tryd.f39, e39, Tryd.func39, by kernel_rfl, c39⟩
theorem s40 : FuncSound Tryd.prog dyn p40 a40 := ⟨Tryd.f40, e40, Tryd.func40, by kernel_rfl, c40⟩
theorem s41 : FuncSound Tryd.prog dyn p41 a41 := ⟨Tryd.f41, e41, Tryd.func41, by kernel_rfl, c41⟩
theorem s42 : FuncSound Tryd.prog dyn p42 a42 := ⟨Tryd.f42, e42, Tryd.func42, by kernel_rfl, c42⟩
theorem s43 : FuncSound Tryd.prog dyn p43 a43 := ⟨Tryd.f43, e43, Tryd.func43, by kernel_rfl, c43⟩
theorem s44 : FuncSound Tryd.prog dyn p44 a44 := ⟨Tryd.f44, e44, Tryd.func44, by kernel_rfl, c44⟩
theorem s45 : FuncSound Tryd.prog dyn p45 a45 := ⟨Tryd.f45, e45, Tryd.func45, by kernel_rfl, c45⟩
theorem s46 : FuncSound Tryd.prog dyn p46 a46 := ⟨Tryd.f46, e46, Tryd.func46, by kernel_rfl, c46⟩
theorem s47 : FuncSound Tryd.prog dyn p47 a47 := ⟨Tryd.f47, e47, Tryd.func47, by kernel_rfl, c47⟩
theorem s48 : FuncSound Tryd.prog dyn p48 a48 := ⟨Tryd.f48, e48, Tryd.func48, by kernel_rfl, c48⟩
theorem s49 : FuncSound Tryd.prog dyn p49 a49 := ⟨Tryd.f49, e49, Tryd.func49, by kernel_rfl, c49⟩
theorem s50 : FuncSound Tryd.prog dyn p50 a50 := ⟨Tryd.f50, e50, Tryd.func50, by kernel_rfl, c50⟩
theorem s51 : FuncSound Tryd.prog dyn p51 a51 := ⟨Tryd.f51, e51, Tryd.func51, by kernel_rfl, c51⟩
theorem s52 : FuncSound Tryd.prog dyn p52 a52 := ⟨Tryd.f52, e52, Tryd.func52, by kernel_rfl, c52⟩
theorem s53 : FuncSound Tryd.prog dyn p53 a53 := ⟨Tryd.f53, e53, Tryd.func53, by kernel_rfl, c53⟩
theorem s54 : FuncSound Tryd.prog dyn p54 a54 := ⟨Tryd.f54, e54, Tryd.func54, by kernel_rfl, c54⟩
theorem s55 : FuncSound Tryd.prog dyn p55 a55 := ⟨Tryd.f55, e55, Tryd.func55, by kernel_rfl, c55⟩
theorem s56 : FuncSound Tryd.prog dyn p56 a56 := ⟨Tryd.f56, e56, Tryd.func56, by kernel_rfl, c56⟩
theorem s57 : FuncSound Tryd.prog dyn p57 a57 := ⟨Tryd.f57, e57, Tryd.func57, by kernel_rfl, c57⟩
theorem s58 : FuncSound Tryd.prog dyn p58 a58 := ⟨Tryd.f58, e58, Tryd.func58, by kernel_rfl, c58⟩
theorem s59 : FuncSound Tryd.prog dyn p59 a59 := ⟨Tryd.f59, e59, Tryd.func59, by kernel_rfl, c59⟩
theorem s61 : FuncSound Tryd.prog dyn p61 a61 := ⟨Tryd.f61, e61, Tryd.func61, by kernel_rfl, c61⟩
theorem s62 : FuncSound Tryd.prog dyn p62 a62 := ⟨Tryd.f62, e62, Tryd.func62, by kernel_rfl, c62⟩
theorem s66 : FuncSound Tryd.prog dyn p66 a66 := ⟨Tryd.f66, e66, Tryd.func66, by kernel_rfl, c66⟩
theorem s68 : FuncSound Tryd.prog dyn p68 a68 := ⟨Tryd.f68, e68, Tryd.func68, by kernel_rfl, c68⟩
theorem s92 : FuncSound Tryd.prog dyn p92 a92 := ⟨Tryd.f92, e92, Tryd.func92, by kernel_rfl, c92⟩
theorem s96 : FuncSound Tryd.prog dyn p96 a96 := ⟨Tryd.f96, e96, Tryd.func96, by kernel_rfl, c96⟩
theorem s97 : FuncSound Tryd.prog dyn p97 a97 := ⟨Tryd.f97, e97, Tryd.func97, by kernel_rfl, c97⟩
theorem s98 : FuncSound Tryd.prog dyn p98 a98 := ⟨Tryd.f98, e98, Tryd.func98, by kernel_rfl, c98⟩
theorem s99 : FuncSound Tryd.prog dyn p99 a99 := ⟨Tryd.f99, e99, Tryd.func99, by kernel_rfl, c99⟩
theorem s100 : FuncSound Tryd.prog dyn p100 a100 := ⟨Tryd.f100, e100, Tryd.func100, by kernel_rfl, c100⟩
theorem s101 : FuncSound Tryd.prog dyn p101 a101 := ⟨Tryd.f101, e101, Tryd.func101, by kernel_rfl, c101⟩
theorem s102 : FuncSound Tryd.prog dyn p102 a102 := ⟨Tryd.f102, e102, Tryd.func102, by kernel_rfl, c102⟩
theorem s103 : FuncSound Tryd.prog dyn p103 a103 := ⟨Tryd.f103, e103, Tryd.func103, by kernel_rfl, c103⟩
theorem s105 : FuncSound Tryd.prog dyn p105 a105 := ⟨Tryd.f105, e105, Tryd.func105, by kernel_rfl, c105⟩
theorem fsok : TrAll (FuncSound Tryd.prog dyn) fs := ⟨tnone, ⟨tnone, ⟨tnone, ⟨tnone, ⟨tnone, ⟨tleaf s31, trivial, trivial⟩, ⟨tleaf s47, trivial, trivial⟩⟩, ⟨tleaf s23, ⟨tleaf s39, trivial, ⟨tleaf s103, trivial, trivial⟩⟩, ⟨tleaf s55, trivial, trivial⟩⟩⟩, ⟨tnone, ⟨tleaf s19, ⟨tleaf s35, trivial, ⟨tleaf s99, trivial, trivial⟩⟩, ⟨tleaf s51, trivial, trivial⟩⟩, ⟨tleaf s27, ⟨tleaf s43, trivial, trivial⟩, ⟨tleaf s59, trivial, trivial⟩⟩⟩⟩, ⟨tnone, ⟨tnone, ⟨tleaf s17, ⟨tleaf s33, trivial, ⟨tleaf s97, trivial, trivial⟩⟩, ⟨tleaf s49, trivial, trivial⟩⟩, ⟨tleaf s25, ⟨tleaf s41, trivial, ⟨tleaf s105, trivial, trivial⟩⟩, ⟨tleaf s57, trivial, trivial⟩⟩⟩, ⟨tnone, ⟨tleaf s21, ⟨tleaf s37, trivial, ⟨tleaf s101, trivial, trivial⟩⟩, ⟨tleaf s53, trivial, trivial⟩⟩, ⟨tnone, ⟨tleaf s45, trivial, trivial⟩, ⟨tleaf s61, trivial, trivial⟩⟩⟩⟩⟩, ⟨tnone, ⟨tleaf s4, ⟨tnone, ⟨tleaf s16, ⟨tleaf s32, trivial, ⟨tleaf s96, trivial, trivial⟩⟩, ⟨tleaf s48, trivial, trivial⟩⟩, ⟨tnone, ⟨tleaf s40, trivial, trivial⟩, ⟨tleaf s56, trivial, trivial⟩⟩⟩, ⟨tnone, ⟨tleaf s20, ⟨tleaf s36, ⟨tleaf s68, trivial, trivial⟩, ⟨tleaf s100, trivial, trivial⟩⟩, ⟨tleaf s52, trivial, trivial⟩⟩, ⟨tleaf s28, ⟨tleaf s44, trivial, trivial⟩, ⟨tnone, ⟨tleaf s92, trivial, trivial⟩, trivial⟩⟩⟩⟩, ⟨tnone, ⟨tnone, ⟨tleaf s18, ⟨tleaf s34, ⟨tleaf s66, trivial, trivial⟩, ⟨tleaf s98, trivial, trivial⟩⟩, ⟨tleaf s50, trivial, trivial⟩⟩, ⟨tleaf s26, ⟨tleaf s42, trivial, trivial⟩, ⟨tleaf s58, trivial, trivial⟩⟩⟩, ⟨tnone, ⟨tnone, ⟨tleaf s38, trivial, ⟨tleaf s102, trivial, trivial⟩⟩, ⟨tleaf s54, trivial, trivial⟩⟩, ⟨tnone, ⟨tleaf s46, trivial, trivial⟩, ⟨tleaf s62, trivial, trivial⟩⟩⟩⟩⟩⟩
theorem mixed : Tryd.prog.follows .mixedOrders = true := by kernel_rfl
theorem x72a : (Tryd.f72.name == "runtime.NumGoroutine") = false := by kernel_rfl
theorem x72b : Tryd.f72.body.isNone = true := by kernel_rfl
theorem x72c : Extern.findNext Tryd.f72 = none := by kernel_rfl
theorem x72d : Extern.find Tryd.f72 = some Extern.BytealgIndexByte.indexByte := by kernel_rfl
theorem x72e : Tryd.prog.funcs[p72.nat - 1]? = some Tryd.f72 := Tryd.func72
theorem h72 : HookSound Tryd.prog p72 hkIndexByte := indexByte_sound ⟨⟨Tryd.f72, x72e, x72a, x72b, x72c, x72d⟩⟩
theorem x65a : (Tryd.f65.name == "runtime.NumGoroutine") = false := by kernel_rfl
theorem x65b : Tryd.f65.body.isNone = true := by kernel_rfl
theorem x65c : Extern.findNext Tryd.f65 = none := by kernel_rfl
theorem x65d : Extern.find Tryd.f65 = some Extern.BytealgCount.count := by kernel_rfl
theorem x65e : Tryd.prog.funcs[p65.nat - 1]? = some Tryd.f65 := Tryd.func65
theorem h65 : HookSound Tryd.prog p65 hkCount := count_sound ⟨⟨Tryd.f65, x65e, x65a, x65b, x65c, x65d⟩⟩
theorem x104a : (Tryd.f104.name == "runtime.NumGoroutine") = false := by kernel_rfl
theorem x104b : Tryd.f104.body.isNone = false := by kernel_rfl
theorem x104e : Tryd.prog.funcs[p104.nat - 1]? = some Tryd.f104 := Tryd.func104
theorem h104 : HookSound Tryd.prog p104 hkJoin := join_sound lays extra rfl x104e x104a x104b
theorem hksok0 : TrAll (HookSound Tryd.prog) hks0 := ⟨tnone, ⟨tnone, trivial, ⟨tnone, ⟨tnone, ⟨tnone, ⟨tnone, ⟨tleaf h65, trivial, trivial⟩, trivial⟩, trivial⟩, trivial⟩, trivial⟩⟩, ⟨tnone, ⟨tnone, ⟨tnone, trivial, ⟨tnone, ⟨tnone, ⟨tleaf h72, trivial, trivial⟩, ⟨tleaf h104, trivial, trivial⟩⟩, trivial⟩⟩, trivial⟩, trivial⟩⟩
theorem sound0 (d : Nat) : CSound Tryd.prog (callF prog0 100000 d) := prog_sound (dyn := dyn) mixed hksok0 fsok d
theorem begunRun : isTrue (callF prog0 100000 60 p16 [] (.mk .e .lf)) = true := by kernel_rfl
theorem x16a : (Tryd.f16.name == "runtime.NumGoroutine") = false := by kernel_rfl
theorem x16b : Tryd.f16.body.isNone = false := by kernel_rfl
theorem x16e : Tryd.prog.funcs[p16.nat - 1]? = some Tryd.f16 := Tryd.func16
theorem x46a : (Tryd.f46.name == "runtime.NumGoroutine") = false := by kernel_rfl
theorem x46b : Tryd.f46.body.isNone = false := by kernel_rfl
theorem x46e : Tryd.prog.funcs[p46.nat - 1]? = some Tryd.f46 := Tryd.func46
theorem h46 : HookSound Tryd.prog p46 (hkPure (callF prog0 100000 60) p46) := pure_sound (sound0 60) x46e x46a x46b
theorem x28a : (Tryd.f28.name == "runtime.NumGoroutine") = false := by kernel_rfl
theorem x28b : Tryd.f28.body.isNone = false := by kernel_rfl
theorem x28e : Tryd.prog.funcs[p28.nat - 1]? = some Tryd.f28 := Tryd.func28
theorem h28 : HookSound Tryd.prog p28 (hkPure (callF prog0 100000 60) p28) := pure_sound (sound0 60) x28e x28a x28b
theorem x27a : (Tryd.f27.name == "runtime.NumGoroutine") = false := by kernel_rfl
theorem x27b : Tryd.f27.body.isNone = false := by kernel_rfl
theorem x27e : Tryd.prog.funcs[p27.nat - 1]? = some Tryd.f27 := Tryd.func27
theorem h27 : HookSound Tryd.prog p27 (hkPure (callF prog0 100000 60) p27) := pure_sound (sound0 60) x27e x27a x27b
theorem x43a : (Tryd.f43.name == "runtime.NumGoroutine") = false := by kernel_rfl
theorem x43b : Tryd.f43.body.isNone = false := by kernel_rfl
theorem x43e : Tryd.prog.funcs[p43.nat - 1]? = some Tryd.f43 := Tryd.func43
theorem h43 : HookSound Tryd.prog p43 (hkPure (callF prog0 100000 60) p43) := pure_sound (sound0 60) x43e x43a x43b
theorem x26a : (Tryd.f26.name == "runtime.NumGoroutine") = false := by kernel_rfl
theorem x26b : Tryd.f26.body.isNone = false := by kernel_rfl
theorem x26e : Tryd.prog.funcs[p26.nat - 1]? = some Tryd.f26 := Tryd.func26
theorem h26 : HookSound Tryd.prog p26 (hkPure (callF prog0 100000 60) p26) := pure_sound (sound0 60) x26e x26a x26b
theorem x40a : (Tryd.f40.name == "runtime.NumGoroutine") = false := by kernel_rfl
theorem x40b : Tryd.f40.body.isNone = false := by kernel_rfl
theorem x40e : Tryd.prog.funcs[p40.nat - 1]? = some Tryd.f40 := Tryd.func40
theorem h40 : HookSound Tryd.prog p40 (hkPure (callF prog0 100000 60) p40) := pure_sound (sound0 60) x40e x40a x40b
theorem x23a : (Tryd.f23.name == "runtime.NumGoroutine") = false := by kernel_rfl
theorem x23b : Tryd.f23.body.isNone = false := by kernel_rfl
theorem x23e : Tryd.prog.funcs[p23.nat - 1]? = some Tryd.f23 := Tryd.func23
theorem h23 : HookSound Tryd.prog p23 (hkPure (callF prog0 100000 60) p23) := pure_sound (sound0 60) x23e x23a x23b
theorem x53a : (Tryd.f53.name == "runtime.NumGoroutine") = false := by kernel_rfl
theorem x53b : Tryd.f53.body.isNone = false := by kernel_rfl
theorem x53e : Tryd.prog.funcs[p53.nat - 1]? = some Tryd.f53 := Tryd.func53
theorem h53 : HookSound Tryd.prog p53 (hkPure (callF prog0 100000 60) p53) := pure_sound (sound0 60) x53e x53a x53b
theorem h16 : HookSound Tryd.prog p16 hkTrue := true_sound (sound0 60) x16e x16a x16b begunRun
theorem hksok : TrAll (HookSound Tryd.prog) hks := ⟨tnone, ⟨tnone, ⟨tnone, ⟨tnone, trivial, ⟨tleaf h23, trivial, trivial⟩⟩, ⟨tnone, trivial, ⟨tleaf h27, ⟨tleaf h43, trivial, trivial⟩, trivial⟩⟩⟩, ⟨tnone, ⟨tnone, ⟨tnone, ⟨tnone, ⟨tleaf h65, trivial, trivial⟩, trivial⟩, trivial⟩, trivial⟩, ⟨tnone, ⟨tnone, trivial, ⟨tleaf h53, trivial, trivial⟩⟩, trivial⟩⟩⟩, ⟨tnone, ⟨tnone, ⟨tnone, ⟨tleaf h16, trivial, trivial⟩, ⟨tnone, ⟨tleaf h40, ⟨tleaf h72, trivial, trivial⟩, ⟨tleaf h104, trivial, trivial⟩⟩, trivial⟩⟩, ⟨tnone, trivial, ⟨tleaf h28, trivial, trivial⟩⟩⟩, ⟨tnone, ⟨tnone, trivial, ⟨tleaf h26, trivial, trivial⟩⟩, ⟨tnone, trivial, ⟨tnone, ⟨tleaf h46, trivial, trivial⟩, trivial⟩⟩⟩⟩⟩
theorem sound (d : Nat) : CSound Tryd.prog (callF prog 100000 d) := prog_sound (dyn := dyn) mixed hksok fsok d
-- root 4
end Go.Cg.Law
