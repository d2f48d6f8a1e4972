/- The evaluator's table of this program is sound. No condition. -/
import Derived.Test.YtlkfdkpkhkinfaaGreatDoorSd5
import Derived.Test.YtlkfdkpkhkinfaaGreatDoorCk1
import Derived.Test.YtlkfdkpkhkinfaaGreatDoorCk2
import Derived.Test.YtlkfdkpkhkinfaaGreatDoorCk3
set_option linter.unusedVariables false
set_option linter.unusedSimpArgs false
namespace Go.Cg.Law
open Go.Proofs
theorem s3 : FuncSound Tryz.prog dyn p3 a3 := ⟨Tryz.f3, e3, Tryz.func3, by kernel_rfl, c3⟩
theorem s4 : FuncSound Tryz.prog dyn p4 a4 := ⟨Tryz.f4, e4, Tryz.func4, by kernel_rfl, c4⟩
theorem s5 : FuncSound Tryz.prog dyn p5 a5 := ⟨Tryz.f5, e5, Tryz.func5, by kernel_rfl, c5⟩
theorem s6 : FuncSound Tryz.prog dyn p6 a6 := ⟨Tryz.f6, e6, Tryz.func6, by kernel_rfl, c6⟩
theorem s7 : FuncSound Tryz.prog dyn p7 a7 := ⟨Tryz.f7, e7, Tryz.func7, by kernel_rfl, c7⟩
theorem s8 : FuncSound Tryz.prog dyn p8 a8 := ⟨Tryz.f8, e8, Tryz.func8, by kernel_rfl, c8⟩
theorem s9 : FuncSound Tryz.prog dyn p9 a9 := ⟨Tryz.f9, e9, Tryz.func9, by kernel_rfl, c9⟩
theorem s10 : FuncSound Tryz.prog dyn p10 a10 := ⟨Tryz.f10, e10, Tryz.func10, by kernel_rfl, c10⟩
theorem s11 : FuncSound Tryz.prog dyn p11 a11 := ⟨Tryz.f11, e11, Tryz.func11, by kernel_rfl, c11⟩
theorem s12 : FuncSound Tryz.prog dyn p12 a12 := ⟨Tryz.f12, e12, Tryz.func12, by kernel_rfl, c12⟩
theorem s13 : FuncSound Tryz.prog dyn p13 a13 := ⟨Tryz.f13, e13, Tryz.func13, by kernel_rfl, c13⟩
theorem s14 : FuncSound Tryz.prog dyn p14 a14 := ⟨Tryz.f14, e14, Tryz.func14, by kernel_rfl, c14⟩
theorem s15 : FuncSound Tryz.prog dyn p15 a15 := ⟨Tryz.f15, e15, Tryz.func15, by kernel_rfl, c15⟩
theorem s16 : FuncSound Tryz.prog dyn p16 a16 := ⟨Tryz.f16, e16, Tryz.func16, by kernel_rfl, c16⟩
theorem s17 : FuncSound Tryz.prog dyn p17 a17 := ⟨Tryz.f17, e17, Tryz.func17, by kernel_rfl, c17⟩
theorem s18 : FuncSound Tryz.prog dyn p18 a18 := ⟨Tryz.f18, e18, Tryz.func18, by kernel_rfl, c18⟩
theorem s19 : FuncSound Tryz.prog dyn p19 a19 := ⟨Tryz.f19, e19, Tryz.func19, by kernel_rfl, c19⟩
theorem s21 : FuncSound Tryz.prog dyn p21 a21 := ⟨Tryz.f21, e21, Tryz.func21, by kernel_rfl, c21⟩
theorem s22 : FuncSound Tryz.prog dyn p22 a22 := ⟨Tryz.f22, e22, Tryz.func22, by kernel_rfl, c22⟩
theorem s24 : FuncSound Tryz.prog dyn p24 a24 := ⟨Tryz.f24, e24, Tryz.func24, by kernel_rfl, c24⟩
theorem s25 : FuncSound Tryz.prog dyn p25 a25 := ⟨Tryz.f25, e25, Tryz.func25, by kernel_rfl, c25⟩
theorem s26 : FuncSound Tryz.prog dyn p26 a26 := ⟨Tryz.f26, e26, Tryz.func26, by kernel_rfl, c26⟩
theorem s27 : FuncSound Tryz.prog dyn p27 a27 := ⟨Tryz.f27, e27, Tryz.func27, by kernel_rfl, c27⟩
theorem s28 : FuncSound Tryz.prog dyn p28 a28 := ⟨Tryz.f28, e28, Tryz.func28, by kernel_rfl, c28⟩
theorem s29 : FuncSound Tryz.prog dyn p29 a29 := ⟨Tryz.f29, e29, Tryz.func29, by kernel_rfl, c29⟩
theorem s30 : FuncSound Tryz.prog dyn p30 a30 := ⟨Tryz.f30, e30, Tryz.func30, by kernel_rfl, c30⟩
theorem s31 : FuncSound Tryz.prog dyn p31 a31 := ⟨Tryz.f31, e31, Tryz.func31, by kernel_rfl, c31⟩
theorem s32 : FuncSound Tryz.prog dyn p32 a32 := ⟨Tryz.f32, e32, Tryz.func32, by kernel_rfl, c32⟩
theorem s33 : FuncSound Tryz.prog dyn p33 a33 := ⟨Tryz.f33, e33, Tryz.func33, by kernel_rfl, c33⟩
theorem s34 : FuncSound Tryz.prog dyn p34 a34 := ⟨Tryz.f34, e34, Tryz.func34, by kernel_rfl, c34⟩
theorem s35 : FuncSound Tryz.prog dyn p35 a35 := ⟨Tryz.f35, e35, Tryz.func35, by kernel_rfl, c35⟩
theorem s36 : FuncSound Tryz.prog dyn p36 a36 := ⟨Tryz.f36, e36, Tryz.func36, by kernel_rfl, c36⟩
theorem s37 : FuncSound Tryz.prog dyn p37 a37 := ⟨Tryz.f37, e37, Tryz.func37, by kernel_rfl, c37⟩
theorem s41 : FuncSound Tryz.prog dyn p41 a41 := ⟨Tryz.f41, e41, Tryz.func41, by kernel_rfl, c41⟩
theorem s42 : FuncSound Tryz.prog dyn p42 a42 := ⟨Tryz.f42, e42, Tryz.func42, by kernel_rfl, c42⟩
theorem s44 : FuncSound Tryz.prog dyn p44 a44 := ⟨Tryz.f44, e44, Tryz.func44, by kernel_rfl, c44⟩
theorem s45 : FuncSound Tryz.prog dyn p45 a45 := ⟨Tryz.f45, e45, Tryz.func45, by kernel_rfl, c45⟩
theorem s49 : FuncSound Tryz.prog dyn p49 a49 := ⟨Tryz.f49, e49, Tryz.func49, by kernel_rfl, c49⟩
theorem s50 : FuncSound Tryz.prog dyn p50 a50 := ⟨Tryz.f50, e50, Tryz.func50, by kernel_rfl, c50⟩
theorem s51 : FuncSound Tryz.prog dyn p51 a51 := ⟨Tryz.f51, e51, Tryz.func51, by kernel_rfl, c51⟩
theorem s52 : FuncSound Tryz.prog dyn p52 a52 := ⟨Tryz.f52, e52, Tryz.func52, by kernel_rfl, c52⟩
theorem s53 : FuncSound Tryz.prog dyn p53 a53 := ⟨Tryz.f53, e53, Tryz.func53, by kernel_rfl, c53⟩
theorem s55 : FuncSound Tryz.prog dyn p55 a55 := ⟨Tryz.f55, e55, Tryz.func55, by kernel_rfl, c55⟩
theorem s56 : FuncSound Tryz.prog dyn p56 a56 := ⟨Tryz.f56, e56, Tryz.func56, by kernel_rfl, c56⟩
theorem s57 : FuncSound Tryz.prog dyn p57 a57 := ⟨Tryz.f57, e57, Tryz.func57, by kernel_rfl, c57⟩
theorem s59 : FuncSound Tryz.prog dyn p59 a59 := ⟨Tryz.f59, e59, Tryz.func59, by kernel_rfl, c59⟩
theorem s60 : FuncSound Tryz.prog dyn p60 a60 := ⟨Tryz.f60, e60, Tryz.func60, by kernel_rfl, c60⟩
theorem s61 : FuncSound Tryz.prog dyn p61 a61 := ⟨Tryz.f61, e61, Tryz.func61, by kernel_rfl, c61⟩
theorem s62 : FuncSound Tryz.prog dyn p62 a62 := ⟨Tryz.f62, e62, Tryz.func62, by kernel_rfl, c62⟩
theorem s63 : FuncSound Tryz.prog dyn p63 a63 := ⟨Tryz.f63, e63, Tryz.func63, by kernel_rfl, c63⟩
theorem s64 : FuncSound Tryz.prog dyn p64 a64 := ⟨Tryz.f64, e64, Tryz.func64, by kernel_rfl, c64⟩
theorem s65 : FuncSound Tryz.prog dyn p65 a65 := ⟨Tryz.f65, e65, Tryz.func65, by kernel_rfl, c65⟩
theorem s66 : FuncSound Tryz.prog dyn p66 a66 := ⟨Tryz.f66, e66, Tryz.func66, by kernel_rfl, c66⟩
theorem s67 : FuncSound Tryz.prog dyn p67 a67 := ⟨Tryz.f67, e67, Tryz.func67, by kernel_rfl, c67⟩
theorem s69 : FuncSound Tryz.prog dyn p69 a69 := ⟨Tryz.f69, e69, Tryz.func69, by kernel_rfl, c69⟩
theorem s71 : FuncSound Tryz.prog dyn p71 a71 := ⟨Tryz.f71, e71, Tryz.func71, by kernel_rfl, c71⟩
theorem s72 : FuncSound Tryz.prog dyn p72 a72 := ⟨Tryz.f72, e72, Tryz.func72, by kernel_rfl, c72⟩
theorem s74 : FuncSound Tryz.prog dyn p74 a74 := ⟨Tryz.f74, e74, Tryz.func74, by kernel_rfl, c74⟩
theorem s75 : FuncSound Tryz.prog dyn p75 a75 := ⟨Tryz.f75, e75, Tryz.func75, by kernel_rfl, c75⟩
theorem s76 : FuncSound Tryz.prog dyn p76 a76 := ⟨Tryz.f76, e76, Tryz.func76, by kernel_rfl, c76⟩
theorem s78 : FuncSound Tryz.prog dyn p78 a78 := ⟨Tryz.f78, e78, Tryz.func78, by kernel_rfl, c78⟩
theorem s79 : FuncSound Tryz.prog dyn p79 a79 := ⟨Tryz.f79, e79, Tryz.func79, by kernel_rfl, c79⟩
theorem s80 : FuncSound Tryz.prog dyn p80 a80 := ⟨Tryz.f80, e80, Tryz.func80, by kernel_rfl, c80⟩
theorem s81 : FuncSound Tryz.prog dyn p81 a81 := ⟨Tryz.f81, e81, Tryz.func81, by kernel_rfl, c81⟩
theorem s82 : FuncSound Tryz.prog dyn p82 a82 := ⟨Tryz.f82, e82, Tryz.func82, by kernel_rfl, c82⟩
theorem s83 : FuncSound Tryz.prog dyn p83 a83 := ⟨Tryz.f83, e83, Tryz.func83, by kernel_rfl, c83⟩
theorem s84 : FuncSound Tryz.prog dyn p84 a84 := ⟨Tryz.f84, e84, Tryz.func84, by kernel_rfl, c84⟩
theorem s87 : FuncSound Tryz.prog dyn p87 a87 := ⟨Tryz.f87, e87, Tryz.func87, by kernel_rfl, c87⟩
theorem s88 : FuncSound Tryz.prog dyn p88 a88 := ⟨Tryz.f88, e88, Tryz.func88, by kernel_rfl, c88⟩
theorem s89 : FuncSound Tryz.prog dyn p89 a89 := ⟨Tryz.f89, e89, Tryz.func89, by kernel_rfl, c89⟩
theorem s90 : FuncSound Tryz.prog dyn p90 a90 := ⟨Tryz.f90, e90, Tryz.func90, by kernel_rfl, c90⟩
theorem s91 : FuncSound Tryz.prog dyn p91 a91 := ⟨Tryz.f91, e91, Tryz.func91, by kernel_rfl, c91⟩
theorem s92 : FuncSound Tryz.prog dyn p92 a92 := ⟨Tryz.f92, e92, Tryz.func92, by kernel_rfl, c92⟩
theorem s93 : FuncSound Tryz.prog dyn p93 a93 := ⟨Tryz.f93, e93, Tryz.func93, by kernel_rfl, c93⟩
theorem s94 : FuncSound Tryz.prog dyn p94 a94 := ⟨Tryz.f94, e94, Tryz.func94, by kernel_rfl, c94⟩
theorem s95 : FuncSound Tryz.prog dyn p95 a95 := ⟨Tryz.f95, e95, Tryz.func95, by kernel_rfl, c95⟩
theorem s96 : FuncSound Tryz.prog dyn p96 a96 := ⟨Tryz.f96, e96, Tryz.func96, by kernel_rfl, c96⟩
theorem s97 : FuncSound Tryz.prog dyn p97 a97 := ⟨Tryz.f97, e97, Tryz.func97, by kernel_rfl, c97⟩
theorem s98 : FuncSound Tryz.prog dyn p98 a98 := ⟨Tryz.f98, e98, Tryz.func98, by kernel_rfl, c98⟩
theorem s99 : FuncSound Tryz.prog dyn p99 a99 := ⟨Tryz.f99, e99, Tryz.func99, by kernel_rfl, c99⟩
theorem s100 : FuncSound Tryz.prog dyn p100 a100 := ⟨Tryz.f100, e100, Tryz.func100, by kernel_rfl, c100⟩
theorem s101 : FuncSound Tryz.prog dyn p101 a101 := ⟨Tryz.f101, e101, Tryz.func101, by kernel_rfl, c101⟩
theorem s102 : FuncSound Tryz.prog dyn p102 a102 := ⟨Tryz.f102, e102, Tryz.func102, by kernel_rfl, c102⟩
theorem s103 : FuncSound Tryz.prog dyn p103 a103 := ⟨Tryz.f103, e103, Tryz.func103, by kernel_rfl, c103⟩
theorem s104 : FuncSound Tryz.prog dyn p104 a104 := ⟨Tryz.f104, e104, Tryz.func104, by kernel_rfl, c104⟩
theorem s107 : FuncSound Tryz.prog dyn p107 a107 := ⟨Tryz.f107, e107, Tryz.func107, by kernel_rfl, c107⟩
theorem s108 : FuncSound Tryz.prog dyn p108 a108 := ⟨Tryz.f108, e108, Tryz.func108, by kernel_rfl, c108⟩
theorem s109 : FuncSound Tryz.prog dyn p109 a109 := ⟨Tryz.f109, e109, Tryz.func109, by kernel_rfl, c109⟩
theorem s111 : FuncSound Tryz.prog dyn p111 a111 := ⟨Tryz.f111, e111, Tryz.func111, by kernel_rfl, c111⟩
theorem s115 : FuncSound Tryz.prog dyn p115 a115 := ⟨Tryz.f115, e115, Tryz.func115, by kernel_rfl, c115⟩
theorem s118 : FuncSound Tryz.prog dyn p118 a118 := ⟨Tryz.f118, e118, Tryz.func118, by kernel_rfl, c118⟩
theorem s122 : FuncSound Tryz.prog dyn p122 a122 := ⟨Tryz.f122, e122, Tryz.func122, by kernel_rfl, c122⟩
theorem s123 : FuncSound Tryz.prog dyn p123 a123 := ⟨Tryz.f123, e123, Tryz.func123, by kernel_rfl, c123⟩
theorem s124 : FuncSound Tryz.prog dyn p124 a124 := ⟨Tryz.f124, e124, Tryz.func124, by kernel_rfl, c124⟩
theorem s125 : FuncSound Tryz.prog dyn p125 a125 := ⟨Tryz.f125, e125, Tryz.func125, by kernel_rfl, c125⟩
theorem s126 : FuncSound Tryz.prog dyn p126 a126 := ⟨Tryz.f126, e126, Tryz.func126, by kernel_rfl, c126⟩
theorem s128 : FuncSound Tryz.prog dyn p128 a128 := ⟨Tryz.f128, e128, Tryz.func128, by kernel_rfl, c128⟩
theorem s129 : FuncSound Tryz.prog dyn p129 a129 := ⟨Tryz.f129, e129, Tryz.func129, by kernel_rfl, c129⟩
theorem s133 : FuncSound Tryz.prog dyn p133 a133 := ⟨Tryz.f133, e133, Tryz.func133, by kernel_rfl, c133⟩
theorem s134 : FuncSound Tryz.prog dyn p134 a134 := ⟨Tryz.f134, e134, Tryz.func134, by kernel_rfl, c134⟩
theorem s135 : FuncSound Tryz.prog dyn p135 a135 := ⟨Tryz.f135, e135, Tryz.func135, by kernel_rfl, c135⟩
theorem s138 : FuncSound Tryz.prog dyn p138 a138 := ⟨Tryz.f138, e138, Tryz.func138, by kernel_rfl, c138⟩
theorem s139 : FuncSound Tryz.prog dyn p139 a139 := ⟨Tryz.f139, e139, Tryz.func139, by kernel_rfl, c139⟩
theorem s140 : FuncSound Tryz.prog dyn p140 a140 := ⟨Tryz.f140, e140, Tryz.func140, by kernel_rfl, c140⟩
theorem s141 : FuncSound Tryz.prog dyn p141 a141 := ⟨Tryz.f141, e141, Tryz.func141, by kernel_rfl, c141⟩
theorem s142 : FuncSound Tryz.prog dyn p142 a142 := ⟨Tryz.f142, e142, Tryz.func142, by kernel_rfl, c142⟩
theorem s143 : FuncSound Tryz.prog dyn p143 a143 := ⟨Tryz.f143, e143, Tryz.func143, by kernel_rfl, c143⟩
theorem s144 : FuncSound Tryz.prog dyn p144 a144 := ⟨Tryz.f144, e144, Tryz.func144, by kernel_rfl, c144⟩
theorem s145 : FuncSound Tryz.prog dyn p145 a145 := ⟨Tryz.f145, e145, Tryz.func145, by kernel_rfl, c145⟩
theorem s146 : FuncSound Tryz.prog dyn p146 a146 := ⟨Tryz.f146, e146, Tryz.func146, by kernel_rfl, c146⟩
theorem s147 : FuncSound Tryz.prog dyn p147 a147 := ⟨Tryz.f147, e147, Tryz.func147, by kernel_rfl, c147⟩
theorem s148 : FuncSound Tryz.prog dyn p148 a148 := ⟨Tryz.f148, e148, Tryz.func148, by kernel_rfl, c148⟩
theorem s149 : FuncSound Tryz.prog dyn p149 a149 := ⟨Tryz.f149, e149, Tryz.func149, by kernel_rfl, c149⟩
theorem s150 : FuncSound Tryz.prog dyn p150 a150 := ⟨Tryz.f150, e150, Tryz.func150, by kernel_rfl, c150⟩
theorem s151 : FuncSound Tryz.prog dyn p151 a151 := ⟨Tryz.f151, e151, Tryz.func151, by kernel_rfl, c151⟩
theorem s152 : FuncSound Tryz.prog dyn p152 a152 := ⟨Tryz.f152, e152, Tryz.func152, by kernel_rfl, c152⟩
theorem s153 : FuncSound Tryz.prog dyn p153 a153 := ⟨Tryz.f153, e153, Tryz.func153, by kernel_rfl, c153⟩
theorem s154 : FuncSound Tryz.prog dyn p154 a154 := ⟨Tryz.f154, e154, Tryz.func154, by kernel_rfl, c154⟩
theorem s155 : FuncSound Tryz.prog dyn p155 a155 := ⟨Tryz.f155, e155, Tryz.func155, by kernel_rfl, c155⟩
theorem s158 : FuncSound Tryz.prog dyn p158 a158 := ⟨Tryz.f158, e158, Tryz.func158, by kernel_rfl, c158⟩
theorem s159 : FuncSound Tryz.prog dyn p159 a159 := ⟨Tryz.f159, e159, Tryz.func159, by kernel_rfl, c159⟩
theorem s160 : FuncSound Tryz.prog dyn p160 a160 := ⟨Tryz.f160, e160, Tryz.func160, by kernel_rfl, c160⟩
theorem s161 : FuncSound Tryz.prog dyn p161 a161 := ⟨Tryz.f161, e161, Tryz.func161, by kernel_rfl, c161⟩
theorem s164 : FuncSound Tryz.prog dyn p164 a164 := ⟨Tryz.f164, e164, Tryz.func164, by kernel_rfl, c164⟩
theorem s165 : FuncSound Tryz.prog dyn p165 a165 := ⟨Tryz.f165, e165, Tryz.func165, by kernel_rfl, c165⟩
theorem s166 : FuncSound Tryz.prog dyn p166 a166 := ⟨Tryz.f166, e166, Tryz.func166, by kernel_rfl, c166⟩
theorem s170 : FuncSound Tryz.prog dyn p170 a170 := ⟨Tryz.f170, e170, Tryz.func170, by kernel_rfl, c170⟩
theorem s172 : FuncSound Tryz.prog dyn p172 a172 := ⟨Tryz.f172, e172, Tryz.func172, by kernel_rfl, c172⟩
theorem s173 : FuncSound Tryz.prog dyn p173 a173 := ⟨Tryz.f173, e173, Tryz.func173, by kernel_rfl, c173⟩
theorem s179 : FuncSound Tryz.prog dyn p179 a179 := ⟨Tryz.f179, e179, Tryz.func179, by kernel_rfl, c179⟩
theorem s183 : FuncSound Tryz.prog dyn p183 a183 := ⟨Tryz.f183, e183, Tryz.func183, by kernel_rfl, c183⟩
theorem s184 : FuncSound Tryz.prog dyn p184 a184 := ⟨Tryz.f184, e184, Tryz.func184, by kernel_rfl, c184⟩
theorem s185 : FuncSound Tryz.prog dyn p185 a185 := ⟨Tryz.f185, e185, Tryz.func185, by kernel_rfl, c185⟩
theorem s186 : FuncSound Tryz.prog dyn p186 a186 := ⟨Tryz.f186, e186, Tryz.func186, by kernel_rfl, c186⟩
theorem s188 : FuncSound Tryz.prog dyn p188 a188 := ⟨Tryz.f188, e188, Tryz.func188, by kernel_rfl, c188⟩
theorem s194 : FuncSound Tryz.prog dyn p194 a194 := ⟨Tryz.f194, e194, Tryz.func194, by kernel_rfl, c194⟩
theorem s197 : FuncSound Tryz.prog dyn p197 a197 := ⟨Tryz.f197, e197, Tryz.func197, by kernel_rfl, c197⟩
theorem s199 : FuncSound Tryz.prog dyn p199 a199 := ⟨Tryz.f199, e199, Tryz.func199, by kernel_rfl, c199⟩
theorem s200 : FuncSound Tryz.prog dyn p200 a200 := ⟨Tryz.f200, e200, Tryz.func200, by kernel_rfl, c200⟩
theorem s204 : FuncSound Tryz.prog dyn p204 a204 := ⟨Tryz.f204, e204, Tryz.func204, by kernel_rfl, c204⟩
theorem s205 : FuncSound Tryz.prog dyn p205 a205 := ⟨Tryz.f205, e205, Tryz.func205, by kernel_rfl, c205⟩
theorem s206 : FuncSound Tryz.prog dyn p206 a206 := ⟨Tryz.f206, e206, Tryz.func206, by kernel_rfl, c206⟩
theorem s207 : FuncSound Tryz.prog dyn p207 a207 := ⟨Tryz.f207, e207, Tryz.func207, by kernel_rfl, c207⟩
theorem s211 : FuncSound Tryz.prog dyn p211 a211 := ⟨Tryz.f211, e211, Tryz.func211, by kernel_rfl, c211⟩
theorem s212 : FuncSound Tryz.prog dyn p212 a212 := ⟨Tryz.f212, e212, Tryz.func212, by kernel_rfl, c212⟩
theorem s213 : FuncSound Tryz.prog dyn p213 a213 := ⟨Tryz.f213, e213, Tryz.func213, by kernel_rfl, c213⟩
theorem s214 : FuncSound Tryz.prog dyn p214 a214 := ⟨Tryz.f214, e214, Tryz.func214, by kernel_rfl, c214⟩
theorem s215 : FuncSound Tryz.prog dyn p215 a215 := ⟨Tryz.f215, e215, Tryz.func215, by kernel_rfl, c215⟩
theorem s220 : FuncSound Tryz.prog dyn p220 a220 := ⟨Tryz.f220, e220, Tryz.func220, by kernel_rfl, c220⟩
theorem s221 : FuncSound Tryz.prog dyn p221 a221 := ⟨Tryz.f221, e221, Tryz.func221, by kernel_rfl, c221⟩
theorem s225 : FuncSound Tryz.prog dyn p225 a225 := ⟨Tryz.f225, e225, Tryz.func225, by kernel_rfl, c225⟩
theorem s226 : FuncSound Tryz.prog dyn p226 a226 := ⟨Tryz.f226, e226, Tryz.func226, by kernel_rfl, c226⟩
theorem s227 : FuncSound Tryz.prog dyn p227 a227 := ⟨Tryz.f227, e227, Tryz.func227, by kernel_rfl, c227⟩
theorem s228 : FuncSound Tryz.prog dyn p228 a228 := ⟨Tryz.f228, e228, Tryz.func228, by kernel_rfl, c228⟩
theorem s231 : FuncSound Tryz.prog dyn p231 a231 := ⟨Tryz.f231, e231, Tryz.func231, by kernel_rfl, c231⟩
theorem s236 : FuncSound Tryz.prog dyn p236 a236 := ⟨Tryz.f236, e236, Tryz.func236, by kernel_rfl, c236⟩
theorem s237 : FuncSound Tryz.prog dyn p237 a237 := ⟨Tryz.f237, e237, Tryz.func237, by kernel_rfl, c237⟩
theorem s238 : FuncSound Tryz.prog dyn p238 a238 := ⟨Tryz.f238, e238, Tryz.func238, by kernel_rfl, c238⟩
theorem s262 : FuncSound Tryz.prog dyn p262 a262 := ⟨Tryz.f262, e262, Tryz.func262, by kernel_rfl, c262⟩
theorem s265 : FuncSound Tryz.prog dyn p265 a265 := ⟨Tryz.f265, e265, Tryz.func265, by kernel_rfl, c265⟩
theorem s266 : FuncSound Tryz.prog dyn p266 a266 := ⟨Tryz.f266, e266, Tryz.func266, by kernel_rfl, c266⟩
theorem s267 : FuncSound Tryz.prog dyn p267 a267 := ⟨Tryz.f267, e267, Tryz.func267, by kernel_rfl, c267⟩
theorem s275 : FuncSound Tryz.prog dyn p275 a275 := ⟨Tryz.f275, e275, Tryz.func275, by kernel_rfl, c275⟩
theorem s279 : FuncSound Tryz.prog dyn p279 a279 := ⟨Tryz.f279, e279, Tryz.func279, by kernel_rfl, c279⟩
theorem s280 : FuncSound Tryz.prog dyn p280 a280 := ⟨Tryz.f280, e280, Tryz.func280, by kernel_rfl, c280⟩
theorem s281 : FuncSound Tryz.prog dyn p281 a281 := ⟨Tryz.f281, e281, Tryz.func281, by kernel_rfl, c281⟩
theorem s282 : FuncSound Tryz.prog dyn p282 a282 := ⟨Tryz.f282, e282, Tryz.func282, by kernel_rfl, c282⟩
theorem s288 : FuncSound Tryz.prog dyn p288 a288 := ⟨Tryz.f288, e288, Tryz.func288, by kernel_rfl, c288⟩
theorem s308 : FuncSound Tryz.prog dyn p308 a308 := ⟨Tryz.f308, e308, Tryz.func308, by kernel_rfl, c308⟩
theorem s316 : FuncSound Tryz.prog dyn p316 a316 := ⟨Tryz.f316, e316, Tryz.func316, by kernel_rfl, c316⟩
theorem s343 : FuncSound Tryz.prog dyn p343 a343 := ⟨Tryz.f343, e343, Tryz.func343, by kernel_rfl, c343⟩
theorem s348 : FuncSound Tryz.prog dyn p348 a348 := ⟨Tryz.f348, e348, Tryz.func348, by kernel_rfl, c348⟩
theorem s349 : FuncSound Tryz.prog dyn p349 a349 := ⟨Tryz.f349, e349, Tryz.func349, by kernel_rfl, c349⟩
theorem s350 : FuncSound Tryz.prog dyn p350 a350 := ⟨Tryz.f350, e350, Tryz.func350, by kernel_rfl, c350⟩
theorem s351 : FuncSound Tryz.prog dyn p351 a351 := ⟨Tryz.f351, e351, Tryz.func351, by kernel_rfl, c351⟩
theorem s352 : FuncSound Tryz.prog dyn p352 a352 := ⟨Tryz.f352, e352, Tryz.func352, by kernel_rfl, c352⟩
theorem s353 : FuncSound Tryz.prog dyn p353 a353 := ⟨Tryz.f353, e353, Tryz.func353, by kernel_rfl, c353⟩
theorem s354 : FuncSound Tryz.prog dyn p354 a354 := ⟨Tryz.f354, e354, Tryz.func354, by kernel_rfl, c354⟩
theorem s356 : FuncSound Tryz.prog dyn p356 a356 := ⟨Tryz.f356, e356, Tryz.func356, by kernel_rfl, c356⟩
theorem s362 : FuncSound Tryz.prog dyn p362 a362 := ⟨Tryz.f362, e362, Tryz.func362, by kernel_rfl, c362⟩
theorem s386 : FuncSound Tryz.prog dyn p386 a386 := ⟨Tryz.f386, e386, Tryz.func386, by kernel_rfl, c386⟩
theorem s391 : FuncSound Tryz.prog dyn p391 a391 := ⟨Tryz.f391, e391, Tryz.func391, by kernel_rfl, c391⟩
theorem s440 : FuncSound Tryz.prog dyn p440 a440 := ⟨Tryz.f440, e440, Tryz.func440, by kernel_rfl, c440⟩
theorem fsok : TrAll (FuncSound Tryz.prog dyn) fs := ⟨tnone, ⟨tnone, ⟨tleaf s3, ⟨tleaf s7, ⟨tleaf s15, ⟨tleaf s31, ⟨tleaf s63, trivial, trivial⟩, ⟨tleaf s95, ⟨tleaf s159, trivial, trivial⟩, ⟨tnone, ⟨tleaf s351, trivial, trivial⟩, trivial⟩⟩⟩, ⟨tnone, ⟨tleaf s79, ⟨tleaf s143, trivial, trivial⟩, ⟨tleaf s207, trivial, trivial⟩⟩, ⟨tleaf s111, trivial, trivial⟩⟩⟩, ⟨tnone, ⟨tnone, ⟨tleaf s71, ⟨tleaf s135, trivial, ⟨tleaf s391, trivial, trivial⟩⟩, ⟨tleaf s199, trivial, trivial⟩⟩, ⟨tleaf s103, trivial, ⟨tleaf s231, trivial, trivial⟩⟩⟩, ⟨tleaf s55, ⟨tleaf s87, ⟨tleaf s151, ⟨tleaf s279, trivial, trivial⟩, trivial⟩, ⟨tleaf s215, ⟨tleaf s343, trivial, trivial⟩, trivial⟩⟩, ⟨tnone, ⟨tleaf s183, trivial, trivial⟩, trivial⟩⟩⟩⟩, ⟨tleaf s11, ⟨tleaf s19, ⟨tleaf s35, ⟨tleaf s67, trivial, trivial⟩, ⟨tleaf s99, trivial, ⟨tleaf s227, trivial, trivial⟩⟩⟩, ⟨tleaf s51, ⟨tleaf s83, ⟨tleaf s147, ⟨tleaf s275, trivial, trivial⟩, trivial⟩, ⟨tleaf s211, trivial, trivial⟩⟩, ⟨tleaf s115, ⟨tleaf s179, trivial, trivial⟩, trivial⟩⟩⟩, ⟨tleaf s27, ⟨tnone, ⟨tleaf s75, ⟨tleaf s139, ⟨tleaf s267, trivial, trivial⟩, trivial⟩, trivial⟩, ⟨tleaf s107, trivial, trivial⟩⟩, ⟨tleaf s59, ⟨tleaf s91, ⟨tleaf s155, trivial, trivial⟩, trivial⟩, ⟨tleaf s123, trivial, trivial⟩⟩⟩⟩⟩, ⟨tleaf s5, ⟨tleaf s9, ⟨tleaf s17, ⟨tleaf s33, ⟨tleaf s65, ⟨tleaf s129, trivial, trivial⟩, trivial⟩, ⟨tleaf s97, ⟨tleaf s161, trivial, trivial⟩, ⟨tleaf s225, ⟨tleaf s353, trivial, trivial⟩, trivial⟩⟩⟩, ⟨tleaf s49, ⟨tleaf s81, ⟨tleaf s145, trivial, trivial⟩, trivial⟩, trivial⟩⟩, ⟨tleaf s25, ⟨tleaf s41, ⟨tnone, ⟨tnone, ⟨tleaf s265, trivial, trivial⟩, trivial⟩, trivial⟩, trivial⟩, ⟨tleaf s57, ⟨tleaf s89, ⟨tleaf s153, ⟨tleaf s281, trivial, trivial⟩, trivial⟩, trivial⟩, ⟨tnone, ⟨tleaf s185, trivial, trivial⟩, trivial⟩⟩⟩⟩, ⟨tleaf s13, ⟨tleaf s21, ⟨tleaf s37, ⟨tleaf s69, ⟨tleaf s133, trivial, trivial⟩, ⟨tleaf s197, trivial, trivial⟩⟩, ⟨tleaf s101, ⟨tleaf s165, trivial, trivial⟩, trivial⟩⟩, ⟨tleaf s53, ⟨tnone, ⟨tleaf s149, trivial, trivial⟩, ⟨tleaf s213, trivial, trivial⟩⟩, trivial⟩⟩, ⟨tleaf s29, ⟨tleaf s45, ⟨tnone, ⟨tleaf s141, trivial, trivial⟩, ⟨tleaf s205, trivial, trivial⟩⟩, ⟨tleaf s109, ⟨tleaf s173, trivial, trivial⟩, ⟨tleaf s237, trivial, trivial⟩⟩⟩, ⟨tleaf s61, ⟨tleaf s93, trivial, ⟨tleaf s221, ⟨tleaf s349, trivial, trivial⟩, trivial⟩⟩, ⟨tleaf s125, trivial, trivial⟩⟩⟩⟩⟩⟩, ⟨tnone, ⟨tleaf s4, ⟨tleaf s8, ⟨tleaf s16, ⟨tleaf s32, ⟨tleaf s64, ⟨tleaf s128, trivial, trivial⟩, trivial⟩, ⟨tleaf s96, ⟨tleaf s160, ⟨tleaf s288, trivial, trivial⟩, trivial⟩, ⟨tnone, ⟨tleaf s352, trivial, trivial⟩, trivial⟩⟩⟩, ⟨tnone, ⟨tleaf s80, ⟨tleaf s144, trivial, trivial⟩, trivial⟩, trivial⟩⟩, ⟨tleaf s24, ⟨tnone, ⟨tleaf s72, trivial, ⟨tleaf s200, trivial, trivial⟩⟩, ⟨tleaf s104, trivial, trivial⟩⟩, ⟨tleaf s56, ⟨tleaf s88, ⟨tleaf s152, ⟨tleaf s280, trivial, trivial⟩, trivial⟩, trivial⟩, ⟨tnone, ⟨tleaf s184, trivial, ⟨tleaf s440, trivial, trivial⟩⟩, trivial⟩⟩⟩⟩, ⟨tleaf s12, ⟨tnone, ⟨tleaf s36, trivial, ⟨tleaf s100, ⟨tleaf s164, trivial, trivial⟩, ⟨tleaf s228, ⟨tleaf s356, trivial, trivial⟩, trivial⟩⟩⟩, ⟨tleaf s52, ⟨tleaf s84, ⟨tleaf s148, trivial, trivial⟩, ⟨tleaf s212, trivial, trivial⟩⟩, ⟨tnone, ⟨tnone, ⟨tleaf s308, trivial, trivial⟩, trivial⟩, trivial⟩⟩⟩, ⟨tleaf s28, ⟨tleaf s44, ⟨tleaf s76, ⟨tleaf s140, trivial, trivial⟩, ⟨tleaf s204, trivial, trivial⟩⟩, ⟨tleaf s108, ⟨tleaf s172, trivial, trivial⟩, ⟨tleaf s236, trivial, trivial⟩⟩⟩, ⟨tleaf s60, ⟨tleaf s92, trivial, ⟨tleaf s220, ⟨tleaf s348, trivial, trivial⟩, trivial⟩⟩, ⟨tleaf s124, ⟨tleaf s188, ⟨tleaf s316, trivial, trivial⟩, trivial⟩, trivial⟩⟩⟩⟩⟩, ⟨tleaf s6, ⟨tleaf s10, ⟨tleaf s18, ⟨tleaf s34, ⟨tleaf s66, ⟨tnone, trivial, ⟨tleaf s386, trivial, trivial⟩⟩, ⟨tleaf s194, trivial, trivial⟩⟩, ⟨tleaf s98, trivial, ⟨tleaf s226, ⟨tleaf s354, trivial, trivial⟩, trivial⟩⟩⟩, ⟨tleaf s50, ⟨tleaf s82, ⟨tleaf s146, trivial, trivial⟩, trivial⟩, trivial⟩⟩, ⟨tleaf s26, ⟨tleaf s42, ⟨tleaf s74, ⟨tleaf s138, ⟨tleaf s266, trivial, trivial⟩, trivial⟩, trivial⟩, ⟨tnone, ⟨tleaf s170, trivial, trivial⟩, ⟨tnone, ⟨tleaf s362, trivial, trivial⟩, trivial⟩⟩⟩, ⟨tnone, ⟨tleaf s90, ⟨tleaf s154, ⟨tleaf s282, trivial, trivial⟩, trivial⟩, trivial⟩, ⟨tleaf s122, ⟨tleaf s186, trivial, trivial⟩, trivial⟩⟩⟩⟩, ⟨tleaf s14, ⟨tleaf s22, ⟨tnone, ⟨tnone, ⟨tleaf s134, ⟨tleaf s262, trivial, trivial⟩, trivial⟩, trivial⟩, ⟨tleaf s102, ⟨tleaf s166, trivial, trivial⟩, trivial⟩⟩, ⟨tnone, ⟨tnone, ⟨tleaf s150, trivial, trivial⟩, ⟨tleaf s214, trivial, trivial⟩⟩, ⟨tleaf s118, trivial, trivial⟩⟩⟩, ⟨tleaf s30, ⟨tnone, ⟨tleaf s78, ⟨tleaf s142, trivial, trivial⟩, ⟨tleaf s206, trivial, trivial⟩⟩, ⟨tnone, trivial, ⟨tleaf s238, trivial, trivial⟩⟩⟩, ⟨tleaf s62, ⟨tleaf s94, ⟨tleaf s158, trivial, trivial⟩, ⟨tnone, ⟨tleaf s350, trivial, trivial⟩, trivial⟩⟩, ⟨tleaf s126, trivial, trivial⟩⟩⟩⟩⟩⟩⟩
theorem mixed : Tryz.prog.follows .mixedOrders = true := by kernel_rfl
theorem x257a : (Tryz.f257.name == "runtime.NumGoroutine") = false := by kernel_rfl
theorem x257b : Tryz.f257.body.isNone = true := by kernel_rfl
theorem x257c : Extern.findNext Tryz.f257 = none := by kernel_rfl
theorem x257d : Extern.find Tryz.f257 = some Extern.BytealgCount.count := by kernel_rfl
theorem x257e : Tryz.prog.funcs[p257.nat - 1]? = some Tryz.f257 := Tryz.func257
theorem h257 : HookSound Tryz.prog p257 hkCount := count_sound ⟨⟨Tryz.f257, x257e, x257a, x257b, x257c, x257d⟩⟩
theorem x117a : (Tryz.f117.name == "runtime.NumGoroutine") = false := by kernel_rfl
theorem x117b : compDefer Tryz.prog dyn e117 Tryz.f117 = some d117 := by kernel_rfl
theorem x117c : (Tryz.f179.name == "runtime.NumGoroutine") = false := by kernel_rfl
theorem x117d : Tryz.prog.funcs[d117.g]? = some Tryz.f179 := Tryz.func179
theorem x117e : Tryz.prog.funcs[p117.nat - 1]? = some Tryz.f117 := Tryz.func117
theorem h117 : HookSound Tryz.prog p117 (hkDefer 100000 d117 a179) := defer_sound mixed x117e x117a x117b x117d x117c c179
theorem x318a : (Tryz.f318.name == "runtime.NumGoroutine") = false := by kernel_rfl
theorem x318b : Tryz.f318.body.isNone = true := by kernel_rfl
theorem x318c : Extern.findNext Tryz.f318 = none := by kernel_rfl
theorem x318d : Extern.find Tryz.f318 = some Extern.BytealgIndexByte.indexByte := by kernel_rfl
theorem x318e : Tryz.prog.funcs[p318.nat - 1]? = some Tryz.f318 := Tryz.func318
theorem h318 : HookSound Tryz.prog p318 hkIndexByte := indexByte_sound ⟨⟨Tryz.f318, x318e, x318a, x318b, x318c, x318d⟩⟩
theorem x286a : (Tryz.f286.name == "runtime.NumGoroutine") = false := by kernel_rfl
theorem x286b : Tryz.f286.body.isNone = true := by kernel_rfl
theorem x286c : Extern.findNext Tryz.f286 = none := by kernel_rfl
theorem x286d : Extern.find Tryz.f286 = some Extern.BytealgIndexByte.indexByte := by kernel_rfl
theorem x286e : Tryz.prog.funcs[p286.nat - 1]? = some Tryz.f286 := Tryz.func286
theorem h286 : HookSound Tryz.prog p286 hkIndexByte := indexByte_sound ⟨⟨Tryz.f286, x286e, x286a, x286b, x286c, x286d⟩⟩
theorem hksok : TrAll (HookSound Tryz.prog) hks := ⟨tnone, ⟨tnone, trivial, ⟨tnone, ⟨tnone, ⟨tnone, ⟨tnone, ⟨tnone, ⟨tnone, ⟨tleaf h257, trivial, trivial⟩, trivial⟩, trivial⟩, trivial⟩, trivial⟩, trivial⟩, ⟨tnone, ⟨tnone, trivial, ⟨tnone, trivial, ⟨tleaf h117, trivial, trivial⟩⟩⟩, trivial⟩⟩⟩, ⟨tnone, trivial, ⟨tnone, trivial, ⟨tnone, trivial, ⟨tnone, trivial, ⟨tnone, ⟨tnone, ⟨tnone, ⟨tleaf h286, trivial, trivial⟩, trivial⟩, trivial⟩, ⟨tnone, ⟨tnone, ⟨tleaf h318, trivial, trivial⟩, trivial⟩, trivial⟩⟩⟩⟩⟩⟩⟩
theorem sound (d : Nat) : CSound Tryz.prog (callF prog 100000 d) := prog_sound (dyn := dyn) mixed hksok fsok d
-- root 3
end Go.Cg.Law
