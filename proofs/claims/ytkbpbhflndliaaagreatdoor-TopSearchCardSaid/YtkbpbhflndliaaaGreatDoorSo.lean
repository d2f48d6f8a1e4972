/- The evaluator's table of this program is sound. No condition. -/
import Derived.Test.YtkbpbhflndliaaaGreatDoorSd5
import Derived.Test.YtkbpbhflndliaaaGreatDoorCk1
import Derived.Test.YtkbpbhflndliaaaGreatDoorCk2
import Derived.Test.YtkbpbhflndliaaaGreatDoorCk3
import Derived.Test.YtkbpbhflndliaaaGreatDoorLa
set_option linter.unusedVariables false
set_option linter.unusedSimpArgs false
set_option linter.unusedSectionVars false
namespace Go.Cg.Law
open Go.Proofs
variable [Syms]
theorem s3 : FuncSound Tryz.prog dyn p3 a3 := ⟨Tryz.f3, e3, Tryz.func3, by kernel_rfl, c3⟩
theorem s4 : FuncSound Tryz.prog dyn p4 a4 := ⟨Tryz.f4, e4, Tryz.func4, by kernel_rfl, c4⟩
theorem s6 : FuncSound Tryz.prog dyn p6 a6 := ⟨Tryz.f6, e6, Tryz.func6, by kernel_rfl, c6⟩
theorem s7 : FuncSound Tryz.prog dyn p7 a7 := ⟨Tryz.f7, e7, Tryz.func7, by kernel_rfl, c7⟩
theorem s8 : FuncSound Tryz.prog dyn p8 a8 := ⟨Tryz.f8, e8, Tryz.func8, by kernel_rfl, c8⟩
theorem s9 : FuncSound Tryz.prog dyn p9 a9 := ⟨Tryz.f9, e9, Tryz.func9, by kernel_rfl, c9⟩
theorem s10 : FuncSound Tryz.prog dyn p10 a10 := ⟨Tryz.f10, e10, Tryz.func10, by kernel_rfl, c10⟩
theorem s11 : FuncSound Tryz.prog dyn p11 a11 := ⟨Tryz.f11, e11, Tryz.func11, by kernel_rfl, c11⟩
theorem s12 : FuncSound Tryz.prog dyn p12 a12 := ⟨Tryz.f12, e12, Tryz.func12, by kernel_rfl, c12⟩
theorem s13 : FuncSound Tryz.prog dyn p13 a13 := ⟨Tryz.f13, e13, Tryz.func13, by kernel_rfl, c13⟩
theorem s14 : FuncSound Tryz.prog dyn p14 a14 := ⟨Tryz.f14, e14, Tryz.func14, by kernel_rfl, c14⟩
theorem s15 : FuncSound Tryz.prog dyn p15 a15 := ⟨Tryz.f15, e15, Tryz.func15, by kernel_rfl, c15⟩
theorem s16 : FuncSound Tryz.prog dyn p16 a16 := ⟨Tryz.f16, e16, Tryz.func16, by kernel_rfl, c16⟩
theorem s17 : FuncSound Tryz.prog dyn p17 a17 := ⟨Tryz.f17, e17, Tryz.func17, by kernel_rfl, c17⟩
theorem s18 : FuncSound Tryz.prog dyn p18 a18 := ⟨Tryz.f18, e18, Tryz.func18, by kernel_rfl, c18⟩
theorem s20 : FuncSound Tryz.prog dyn p20 a20 := ⟨Tryz.f20, e20, Tryz.func20, by kernel_rfl, c20⟩
theorem s21 : FuncSound Tryz.prog dyn p21 a21 := ⟨Tryz.f21, e21, Tryz.func21, by kernel_rfl, c21⟩
theorem s22 : FuncSound Tryz.prog dyn p22 a22 := ⟨Tryz.f22, e22, Tryz.func22, by kernel_rfl, c22⟩
theorem s23 : FuncSound Tryz.prog dyn p23 a23 := ⟨Tryz.f23, e23, Tryz.func23, by kernel_rfl, c23⟩
theorem s24 : FuncSound Tryz.prog dyn p24 a24 := ⟨Tryz.f24, e24, Tryz.func24, by kernel_rfl, c24⟩
theorem s25 : FuncSound Tryz.prog dyn p25 a25 := ⟨Tryz.f25, e25, Tryz.func25, by kernel_rfl, c25⟩
theorem s26 : FuncSound Tryz.prog dyn p26 a26 := ⟨Tryz.f26, e26, Tryz.func26, by kernel_rfl, c26⟩
theorem s27 : FuncSound Tryz.prog dyn p27 a27 := ⟨Tryz.f27, e27, Tryz.func27, by kernel_rfl, c27⟩
theorem s29 : FuncSound Tryz.prog dyn p29 a29 := ⟨Tryz.f29, e29, Tryz.func29, by kernel_rfl, c29⟩
theorem s30 : FuncSound Tryz.prog dyn p30 a30 := ⟨Tryz.f30, e30, Tryz.func30, by kernel_rfl, c30⟩
theorem s33 : FuncSound Tryz.prog dyn p33 a33 := ⟨Tryz.f33, e33, Tryz.func33, by kernel_rfl, c33⟩
theorem s34 : FuncSound Tryz.prog dyn p34 a34 := ⟨Tryz.f34, e34, Tryz.func34, by kernel_rfl, c34⟩
theorem s40 : FuncSound Tryz.prog dyn p40 a40 := ⟨Tryz.f40, e40, Tryz.func40, by kernel_rfl, c40⟩
theorem s41 : FuncSound Tryz.prog dyn p41 a41 := ⟨Tryz.f41, e41, Tryz.func41, by kernel_rfl, c41⟩
theorem s42 : FuncSound Tryz.prog dyn p42 a42 := ⟨Tryz.f42, e42, Tryz.func42, by kernel_rfl, c42⟩
theorem s43 : FuncSound Tryz.prog dyn p43 a43 := ⟨Tryz.f43, e43, Tryz.func43, by kernel_rfl, c43⟩
theorem s44 : FuncSound Tryz.prog dyn p44 a44 := ⟨Tryz.f44, e44, Tryz.func44, by kernel_rfl, c44⟩
theorem s45 : FuncSound Tryz.prog dyn p45 a45 := ⟨Tryz.f45, e45, Tryz.func45, by kernel_rfl, c45⟩
theorem s46 : FuncSound Tryz.prog dyn p46 a46 := ⟨Tryz.f46, e46, Tryz.func46, by kernel_rfl, c46⟩
theorem s47 : FuncSound Tryz.prog dyn p47 a47 := ⟨Tryz.f47, e47, Tryz.func47, by kernel_rfl, c47⟩
theorem s48 : FuncSound Tryz.prog dyn p48 a48 := ⟨Tryz.f48, e48, Tryz.func48, by kernel_rfl, c48⟩
theorem s49 : FuncSound Tryz.prog dyn p49 a49 := ⟨Tryz.f49, e49, Tryz.func49, by kernel_rfl, c49⟩
theorem s50 : FuncSound Tryz.prog dyn p50 a50 := ⟨Tryz.f50, e50, Tryz.func50, by kernel_rfl, c50⟩
theorem s51 : FuncSound Tryz.prog dyn p51 a51 := ⟨Tryz.f51, e51, Tryz.func51, by kernel_rfl, c51⟩
theorem s52 : FuncSound Tryz.prog dyn p52 a52 := ⟨Tryz.f52, e52, Tryz.func52, by kernel_rfl, c52⟩
theorem s53 : FuncSound Tryz.prog dyn p53 a53 := ⟨Tryz.f53, e53, Tryz.func53, by kernel_rfl, c53⟩
theorem s54 : FuncSound Tryz.prog dyn p54 a54 := ⟨Tryz.f54, e54, Tryz.func54, by kernel_rfl, c54⟩
theorem s55 : FuncSound Tryz.prog dyn p55 a55 := ⟨Tryz.f55, e55, Tryz.func55, by kernel_rfl, c55⟩
theorem s56 : FuncSound Tryz.prog dyn p56 a56 := ⟨Tryz.f56, e56, Tryz.func56, by kernel_rfl, c56⟩
theorem s57 : FuncSound Tryz.prog dyn p57 a57 := ⟨Tryz.f57, e57, Tryz.func57, by kernel_rfl, c57⟩
theorem s58 : FuncSound Tryz.prog dyn p58 a58 := ⟨Tryz.f58, e58, Tryz.func58, by kernel_rfl, c58⟩
theorem s59 : FuncSound Tryz.prog dyn p59 a59 := ⟨Tryz.f59, e59, Tryz.func59, by kernel_rfl, c59⟩
theorem s61 : FuncSound Tryz.prog dyn p61 a61 := ⟨Tryz.f61, e61, Tryz.func61, by kernel_rfl, c61⟩
theorem s62 : FuncSound Tryz.prog dyn p62 a62 := ⟨Tryz.f62, e62, Tryz.func62, by kernel_rfl, c62⟩
theorem s63 : FuncSound Tryz.prog dyn p63 a63 := ⟨Tryz.f63, e63, Tryz.func63, by kernel_rfl, c63⟩
theorem s64 : FuncSound Tryz.prog dyn p64 a64 := ⟨Tryz.f64, e64, Tryz.func64, by kernel_rfl, c64⟩
theorem s65 : FuncSound Tryz.prog dyn p65 a65 := ⟨Tryz.f65, e65, Tryz.func65, by kernel_rfl, c65⟩
theorem s67 : FuncSound Tryz.prog dyn p67 a67 := ⟨Tryz.f67, e67, Tryz.func67, by kernel_rfl, c67⟩
theorem s68 : FuncSound Tryz.prog dyn p68 a68 := ⟨Tryz.f68, e68, Tryz.func68, by kernel_rfl, c68⟩
theorem s69 : FuncSound Tryz.prog dyn p69 a69 := ⟨Tryz.f69, e69, Tryz.func69, by kernel_rfl, c69⟩
theorem s70 : FuncSound Tryz.prog dyn p70 a70 := ⟨Tryz.f70, e70, Tryz.func70, by kernel_rfl, c70⟩
theorem s74 : FuncSound Tryz.prog dyn p74 a74 := ⟨Tryz.f74, e74, Tryz.func74, by kernel_rfl, c74⟩
theorem s75 : FuncSound Tryz.prog dyn p75 a75 := ⟨Tryz.f75, e75, Tryz.func75, by kernel_rfl, c75⟩
theorem s76 : FuncSound Tryz.prog dyn p76 a76 := ⟨Tryz.f76, e76, Tryz.func76, by kernel_rfl, c76⟩
theorem s77 : FuncSound Tryz.prog dyn p77 a77 := ⟨Tryz.f77, e77, Tryz.func77, by kernel_rfl, c77⟩
theorem s80 : FuncSound Tryz.prog dyn p80 a80 := ⟨Tryz.f80, e80, Tryz.func80, by kernel_rfl, c80⟩
theorem s81 : FuncSound Tryz.prog dyn p81 a81 := ⟨Tryz.f81, e81, Tryz.func81, by kernel_rfl, c81⟩
theorem s84 : FuncSound Tryz.prog dyn p84 a84 := ⟨Tryz.f84, e84, Tryz.func84, by kernel_rfl, c84⟩
theorem s85 : FuncSound Tryz.prog dyn p85 a85 := ⟨Tryz.f85, e85, Tryz.func85, by kernel_rfl, c85⟩
theorem s86 : FuncSound Tryz.prog dyn p86 a86 := ⟨Tryz.f86, e86, Tryz.func86, by kernel_rfl, c86⟩
theorem s87 : FuncSound Tryz.prog dyn p87 a87 := ⟨Tryz.f87, e87, Tryz.func87, by kernel_rfl, c87⟩
theorem s88 : FuncSound Tryz.prog dyn p88 a88 := ⟨Tryz.f88, e88, Tryz.func88, by kernel_rfl, c88⟩
theorem s89 : FuncSound Tryz.prog dyn p89 a89 := ⟨Tryz.f89, e89, Tryz.func89, by kernel_rfl, c89⟩
theorem s90 : FuncSound Tryz.prog dyn p90 a90 := ⟨Tryz.f90, e90, Tryz.func90, by kernel_rfl, c90⟩
theorem s91 : FuncSound Tryz.prog dyn p91 a91 := ⟨Tryz.f91, e91, Tryz.func91, by kernel_rfl, c91⟩
theorem s92 : FuncSound Tryz.prog dyn p92 a92 := ⟨Tryz.f92, e92, Tryz.func92, by kernel_rfl, c92⟩
theorem s94 : FuncSound Tryz.prog dyn p94 a94 := ⟨Tryz.f94, e94, Tryz.func94, by kernel_rfl, c94⟩
theorem s95 : FuncSound Tryz.prog dyn p95 a95 := ⟨Tryz.f95, e95, Tryz.func95, by kernel_rfl, c95⟩
theorem s96 : FuncSound Tryz.prog dyn p96 a96 := ⟨Tryz.f96, e96, Tryz.func96, by kernel_rfl, c96⟩
theorem s97 : FuncSound Tryz.prog dyn p97 a97 := ⟨Tryz.f97, e97, Tryz.func97, by kernel_rfl, c97⟩
theorem s99 : FuncSound Tryz.prog dyn p99 a99 := ⟨Tryz.f99, e99, Tryz.func99, by kernel_rfl, c99⟩
theorem s100 : FuncSound Tryz.prog dyn p100 a100 := ⟨Tryz.f100, e100, Tryz.func100, by kernel_rfl, c100⟩
theorem s101 : FuncSound Tryz.prog dyn p101 a101 := ⟨Tryz.f101, e101, Tryz.func101, by kernel_rfl, c101⟩
theorem s102 : FuncSound Tryz.prog dyn p102 a102 := ⟨Tryz.f102, e102, Tryz.func102, by kernel_rfl, c102⟩
theorem s103 : FuncSound Tryz.prog dyn p103 a103 := ⟨Tryz.f103, e103, Tryz.func103, by kernel_rfl, c103⟩
theorem s105 : FuncSound Tryz.prog dyn p105 a105 := ⟨Tryz.f105, e105, Tryz.func105, by kernel_rfl, c105⟩
theorem s106 : FuncSound Tryz.prog dyn p106 a106 := ⟨Tryz.f106, e106, Tryz.func106, by kernel_rfl, c106⟩
theorem s107 : FuncSound Tryz.prog dyn p107 a107 := ⟨Tryz.f107, e107, Tryz.func107, by kernel_rfl, c107⟩
theorem s108 : FuncSound Tryz.prog dyn p108 a108 := ⟨Tryz.f108, e108, Tryz.func108, by kernel_rfl, c108⟩
theorem s110 : FuncSound Tryz.prog dyn p110 a110 := ⟨Tryz.f110, e110, Tryz.func110, by kernel_rfl, c110⟩
theorem s112 : FuncSound Tryz.prog dyn p112 a112 := ⟨Tryz.f112, e112, Tryz.func112, by kernel_rfl, c112⟩
theorem s113 : FuncSound Tryz.prog dyn p113 a113 := ⟨Tryz.f113, e113, Tryz.func113, by kernel_rfl, c113⟩
theorem s114 : FuncSound Tryz.prog dyn p114 a114 := ⟨Tryz.f114, e114, Tryz.func114, by kernel_rfl, c114⟩
theorem s115 : FuncSound Tryz.prog dyn p115 a115 := ⟨Tryz.f115, e115, Tryz.func115, by kernel_rfl, c115⟩
theorem s118 : FuncSound Tryz.prog dyn p118 a118 := ⟨Tryz.f118, e118, Tryz.func118, by kernel_rfl, c118⟩
theorem s119 : FuncSound Tryz.prog dyn p119 a119 := ⟨Tryz.f119, e119, Tryz.func119, by kernel_rfl, c119⟩
theorem s120 : FuncSound Tryz.prog dyn p120 a120 := ⟨Tryz.f120, e120, Tryz.func120, by kernel_rfl, c120⟩
theorem s123 : FuncSound Tryz.prog dyn p123 a123 := ⟨Tryz.f123, e123, Tryz.func123, by kernel_rfl, c123⟩
theorem s132 : FuncSound Tryz.prog dyn p132 a132 := ⟨Tryz.f132, e132, Tryz.func132, by kernel_rfl, c132⟩
theorem s134 : FuncSound Tryz.prog dyn p134 a134 := ⟨Tryz.f134, e134, Tryz.func134, by kernel_rfl, c134⟩
theorem s135 : FuncSound Tryz.prog dyn p135 a135 := ⟨Tryz.f135, e135, Tryz.func135, by kernel_rfl, c135⟩
theorem s137 : FuncSound Tryz.prog dyn p137 a137 := ⟨Tryz.f137, e137, Tryz.func137, by kernel_rfl, c137⟩
theorem s138 : FuncSound Tryz.prog dyn p138 a138 := ⟨Tryz.f138, e138, Tryz.func138, by kernel_rfl, c138⟩
theorem s141 : FuncSound Tryz.prog dyn p141 a141 := ⟨Tryz.f141, e141, Tryz.func141, by kernel_rfl, c141⟩
theorem s142 : FuncSound Tryz.prog dyn p142 a142 := ⟨Tryz.f142, e142, Tryz.func142, by kernel_rfl, c142⟩
theorem s145 : FuncSound Tryz.prog dyn p145 a145 := ⟨Tryz.f145, e145, Tryz.func145, by kernel_rfl, c145⟩
theorem s146 : FuncSound Tryz.prog dyn p146 a146 := ⟨Tryz.f146, e146, Tryz.func146, by kernel_rfl, c146⟩
theorem s147 : FuncSound Tryz.prog dyn p147 a147 := ⟨Tryz.f147, e147, Tryz.func147, by kernel_rfl, c147⟩
theorem s148 : FuncSound Tryz.prog dyn p148 a148 := ⟨Tryz.f148, e148, Tryz.func148, by kernel_rfl, c148⟩
theorem s149 : FuncSound Tryz.prog dyn p149 a149 := ⟨Tryz.f149, e149, Tryz.func149, by kernel_rfl, c149⟩
theorem s150 : FuncSound Tryz.prog dyn p150 a150 := ⟨Tryz.f150, e150, Tryz.func150, by kernel_rfl, c150⟩
theorem s151 : FuncSound Tryz.prog dyn p151 a151 := ⟨Tryz.f151, e151, Tryz.func151, by kernel_rfl, c151⟩
theorem s152 : FuncSound Tryz.prog dyn p152 a152 := ⟨Tryz.f152, e152, Tryz.func152, by kernel_rfl, c152⟩
theorem s153 : FuncSound Tryz.prog dyn p153 a153 := ⟨Tryz.f153, e153, Tryz.func153, by kernel_rfl, c153⟩
theorem s154 : FuncSound Tryz.prog dyn p154 a154 := ⟨Tryz.f154, e154, Tryz.func154, by kernel_rfl, c154⟩
theorem s156 : FuncSound Tryz.prog dyn p156 a156 := ⟨Tryz.f156, e156, Tryz.func156, by kernel_rfl, c156⟩
theorem s158 : FuncSound Tryz.prog dyn p158 a158 := ⟨Tryz.f158, e158, Tryz.func158, by kernel_rfl, c158⟩
theorem s160 : FuncSound Tryz.prog dyn p160 a160 := ⟨Tryz.f160, e160, Tryz.func160, by kernel_rfl, c160⟩
theorem s161 : FuncSound Tryz.prog dyn p161 a161 := ⟨Tryz.f161, e161, Tryz.func161, by kernel_rfl, c161⟩
theorem s162 : FuncSound Tryz.prog dyn p162 a162 := ⟨Tryz.f162, e162, Tryz.func162, by kernel_rfl, c162⟩
theorem s163 : FuncSound Tryz.prog dyn p163 a163 := ⟨Tryz.f163, e163, Tryz.func163, by kernel_rfl, c163⟩
theorem s164 : FuncSound Tryz.prog dyn p164 a164 := ⟨Tryz.f164, e164, Tryz.func164, by kernel_rfl, c164⟩
theorem s165 : FuncSound Tryz.prog dyn p165 a165 := ⟨Tryz.f165, e165, Tryz.func165, by kernel_rfl, c165⟩
theorem s166 : FuncSound Tryz.prog dyn p166 a166 := ⟨Tryz.f166, e166, Tryz.func166, by kernel_rfl, c166⟩
theorem s167 : FuncSound Tryz.prog dyn p167 a167 := ⟨Tryz.f167, e167, Tryz.func167, by kernel_rfl, c167⟩
theorem s168 : FuncSound Tryz.prog dyn p168 a168 := ⟨Tryz.f168, e168, Tryz.func168, by kernel_rfl, c168⟩
theorem s170 : FuncSound Tryz.prog dyn p170 a170 := ⟨Tryz.f170, e170, Tryz.func170, by kernel_rfl, c170⟩
theorem s171 : FuncSound Tryz.prog dyn p171 a171 := ⟨Tryz.f171, e171, Tryz.func171, by kernel_rfl, c171⟩
theorem s172 : FuncSound Tryz.prog dyn p172 a172 := ⟨Tryz.f172, e172, Tryz.func172, by kernel_rfl, c172⟩
theorem s173 : FuncSound Tryz.prog dyn p173 a173 := ⟨Tryz.f173, e173, Tryz.func173, by kernel_rfl, c173⟩
theorem s174 : FuncSound Tryz.prog dyn p174 a174 := ⟨Tryz.f174, e174, Tryz.func174, by kernel_rfl, c174⟩
theorem s175 : FuncSound Tryz.prog dyn p175 a175 := ⟨Tryz.f175, e175, Tryz.func175, by kernel_rfl, c175⟩
theorem s176 : FuncSound Tryz.prog dyn p176 a176 := ⟨Tryz.f176, e176, Tryz.func176, by kernel_rfl, c176⟩
theorem s177 : FuncSound Tryz.prog dyn p177 a177 := ⟨Tryz.f177, e177, Tryz.func177, by kernel_rfl, c177⟩
theorem s179 : FuncSound Tryz.prog dyn p179 a179 := ⟨Tryz.f179, e179, Tryz.func179, by kernel_rfl, c179⟩
theorem s180 : FuncSound Tryz.prog dyn p180 a180 := ⟨Tryz.f180, e180, Tryz.func180, by kernel_rfl, c180⟩
theorem s181 : FuncSound Tryz.prog dyn p181 a181 := ⟨Tryz.f181, e181, Tryz.func181, by kernel_rfl, c181⟩
theorem s184 : FuncSound Tryz.prog dyn p184 a184 := ⟨Tryz.f184, e184, Tryz.func184, by kernel_rfl, c184⟩
theorem s195 : FuncSound Tryz.prog dyn p195 a195 := ⟨Tryz.f195, e195, Tryz.func195, by kernel_rfl, c195⟩
theorem s196 : FuncSound Tryz.prog dyn p196 a196 := ⟨Tryz.f196, e196, Tryz.func196, by kernel_rfl, c196⟩
theorem s197 : FuncSound Tryz.prog dyn p197 a197 := ⟨Tryz.f197, e197, Tryz.func197, by kernel_rfl, c197⟩
theorem s198 : FuncSound Tryz.prog dyn p198 a198 := ⟨Tryz.f198, e198, Tryz.func198, by kernel_rfl, c198⟩
theorem s199 : FuncSound Tryz.prog dyn p199 a199 := ⟨Tryz.f199, e199, Tryz.func199, by kernel_rfl, c199⟩
theorem s200 : FuncSound Tryz.prog dyn p200 a200 := ⟨Tryz.f200, e200, Tryz.func200, by kernel_rfl, c200⟩
theorem s201 : FuncSound Tryz.prog dyn p201 a201 := ⟨Tryz.f201, e201, Tryz.func201, by kernel_rfl, c201⟩
theorem s202 : FuncSound Tryz.prog dyn p202 a202 := ⟨Tryz.f202, e202, Tryz.func202, by kernel_rfl, c202⟩
theorem s203 : FuncSound Tryz.prog dyn p203 a203 := ⟨Tryz.f203, e203, Tryz.func203, by kernel_rfl, c203⟩
theorem s205 : FuncSound Tryz.prog dyn p205 a205 := ⟨Tryz.f205, e205, Tryz.func205, by kernel_rfl, c205⟩
theorem s206 : FuncSound Tryz.prog dyn p206 a206 := ⟨Tryz.f206, e206, Tryz.func206, by kernel_rfl, c206⟩
theorem s207 : FuncSound Tryz.prog dyn p207 a207 := ⟨Tryz.f207, e207, Tryz.func207, by kernel_rfl, c207⟩
theorem s208 : FuncSound Tryz.prog dyn p208 a208 := ⟨Tryz.f208, e208, Tryz.func208, by kernel_rfl, c208⟩
theorem s209 : FuncSound Tryz.prog dyn p209 a209 := ⟨Tryz.f209, e209, Tryz.func209, by kernel_rfl, c209⟩
theorem s211 : FuncSound Tryz.prog dyn p211 a211 := ⟨Tryz.f211, e211, Tryz.func211, by kernel_rfl, c211⟩
theorem s217 : FuncSound Tryz.prog dyn p217 a217 := ⟨Tryz.f217, e217, Tryz.func217, by kernel_rfl, c217⟩
theorem s218 : FuncSound Tryz.prog dyn p218 a218 := ⟨Tryz.f218, e218, Tryz.func218, by kernel_rfl, c218⟩
theorem s219 : FuncSound Tryz.prog dyn p219 a219 := ⟨Tryz.f219, e219, Tryz.func219, by kernel_rfl, c219⟩
theorem s220 : FuncSound Tryz.prog dyn p220 a220 := ⟨Tryz.f220, e220, Tryz.func220, by kernel_rfl, c220⟩
theorem s224 : FuncSound Tryz.prog dyn p224 a224 := ⟨Tryz.f224, e224, Tryz.func224, by kernel_rfl, c224⟩
theorem s225 : FuncSound Tryz.prog dyn p225 a225 := ⟨Tryz.f225, e225, Tryz.func225, by kernel_rfl, c225⟩
theorem s226 : FuncSound Tryz.prog dyn p226 a226 := ⟨Tryz.f226, e226, Tryz.func226, by kernel_rfl, c226⟩
theorem s227 : FuncSound Tryz.prog dyn p227 a227 := ⟨Tryz.f227, e227, Tryz.func227, by kernel_rfl, c227⟩
theorem s228 : FuncSound Tryz.prog dyn p228 a228 := ⟨Tryz.f228, e228, Tryz.func228, by kernel_rfl, c228⟩
theorem s229 : FuncSound Tryz.prog dyn p229 a229 := ⟨Tryz.f229, e229, Tryz.func229, by kernel_rfl, c229⟩
theorem s230 : FuncSound Tryz.prog dyn p230 a230 := ⟨Tryz.f230, e230, Tryz.func230, by kernel_rfl, c230⟩
theorem s231 : FuncSound Tryz.prog dyn p231 a231 := ⟨Tryz.f231, e231, Tryz.func231, by kernel_rfl, c231⟩
theorem s234 : FuncSound Tryz.prog dyn p234 a234 := ⟨Tryz.f234, e234, Tryz.func234, by kernel_rfl, c234⟩
theorem s237 : FuncSound Tryz.prog dyn p237 a237 := ⟨Tryz.f237, e237, Tryz.func237, by kernel_rfl, c237⟩
theorem s240 : FuncSound Tryz.prog dyn p240 a240 := ⟨Tryz.f240, e240, Tryz.func240, by kernel_rfl, c240⟩
theorem s241 : FuncSound Tryz.prog dyn p241 a241 := ⟨Tryz.f241, e241, Tryz.func241, by kernel_rfl, c241⟩
theorem s245 : FuncSound Tryz.prog dyn p245 a245 := ⟨Tryz.f245, e245, Tryz.func245, by kernel_rfl, c245⟩
theorem s247 : FuncSound Tryz.prog dyn p247 a247 := ⟨Tryz.f247, e247, Tryz.func247, by kernel_rfl, c247⟩
theorem s252 : FuncSound Tryz.prog dyn p252 a252 := ⟨Tryz.f252, e252, Tryz.func252, by kernel_rfl, c252⟩
theorem s253 : FuncSound Tryz.prog dyn p253 a253 := ⟨Tryz.f253, e253, Tryz.func253, by kernel_rfl, c253⟩
theorem s254 : FuncSound Tryz.prog dyn p254 a254 := ⟨Tryz.f254, e254, Tryz.func254, by kernel_rfl, c254⟩
theorem s260 : FuncSound Tryz.prog dyn p260 a260 := ⟨Tryz.f260, e260, Tryz.func260, by kernel_rfl, c260⟩
theorem s262 : FuncSound Tryz.prog dyn p262 a262 := ⟨Tryz.f262, e262, Tryz.func262, by kernel_rfl, c262⟩
theorem s263 : FuncSound Tryz.prog dyn p263 a263 := ⟨Tryz.f263, e263, Tryz.func263, by kernel_rfl, c263⟩
theorem s268 : FuncSound Tryz.prog dyn p268 a268 := ⟨Tryz.f268, e268, Tryz.func268, by kernel_rfl, c268⟩
theorem s269 : FuncSound Tryz.prog dyn p269 a269 := ⟨Tryz.f269, e269, Tryz.func269, by kernel_rfl, c269⟩
theorem s270 : FuncSound Tryz.prog dyn p270 a270 := ⟨Tryz.f270, e270, Tryz.func270, by kernel_rfl, c270⟩
theorem s278 : FuncSound Tryz.prog dyn p278 a278 := ⟨Tryz.f278, e278, Tryz.func278, by kernel_rfl, c278⟩
theorem s280 : FuncSound Tryz.prog dyn p280 a280 := ⟨Tryz.f280, e280, Tryz.func280, by kernel_rfl, c280⟩
theorem s290 : FuncSound Tryz.prog dyn p290 a290 := ⟨Tryz.f290, e290, Tryz.func290, by kernel_rfl, c290⟩
theorem s301 : FuncSound Tryz.prog dyn p301 a301 := ⟨Tryz.f301, e301, Tryz.func301, by kernel_rfl, c301⟩
theorem s319 : FuncSound Tryz.prog dyn p319 a319 := ⟨Tryz.f319, e319, Tryz.func319, by kernel_rfl, c319⟩
theorem s324 : FuncSound Tryz.prog dyn p324 a324 := ⟨Tryz.f324, e324, Tryz.func324, by kernel_rfl, c324⟩
theorem s343 : FuncSound Tryz.prog dyn p343 a343 := ⟨Tryz.f343, e343, Tryz.func343, by kernel_rfl, c343⟩
theorem s369 : FuncSound Tryz.prog dyn p369 a369 := ⟨Tryz.f369, e369, Tryz.func369, by kernel_rfl, c369⟩
theorem s370 : FuncSound Tryz.prog dyn p370 a370 := ⟨Tryz.f370, e370, Tryz.func370, by kernel_rfl, c370⟩
theorem s371 : FuncSound Tryz.prog dyn p371 a371 := ⟨Tryz.f371, e371, Tryz.func371, by kernel_rfl, c371⟩
theorem s372 : FuncSound Tryz.prog dyn p372 a372 := ⟨Tryz.f372, e372, Tryz.func372, by kernel_rfl, c372⟩
theorem s373 : FuncSound Tryz.prog dyn p373 a373 := ⟨Tryz.f373, e373, Tryz.func373, by kernel_rfl, c373⟩
theorem s374 : FuncSound Tryz.prog dyn p374 a374 := ⟨Tryz.f374, e374, Tryz.func374, by kernel_rfl, c374⟩
theorem s375 : FuncSound Tryz.prog dyn p375 a375 := ⟨Tryz.f375, e375, Tryz.func375, by kernel_rfl, c375⟩
theorem s377 : FuncSound Tryz.prog dyn p377 a377 := ⟨Tryz.f377, e377, Tryz.func377, by kernel_rfl, c377⟩
theorem s380 : FuncSound Tryz.prog dyn p380 a380 := ⟨Tryz.f380, e380, Tryz.func380, by kernel_rfl, c380⟩
theorem s382 : FuncSound Tryz.prog dyn p382 a382 := ⟨Tryz.f382, e382, Tryz.func382, by kernel_rfl, c382⟩
theorem s383 : FuncSound Tryz.prog dyn p383 a383 := ⟨Tryz.f383, e383, Tryz.func383, by kernel_rfl, c383⟩
theorem s384 : FuncSound Tryz.prog dyn p384 a384 := ⟨Tryz.f384, e384, Tryz.func384, by kernel_rfl, c384⟩
theorem s385 : FuncSound Tryz.prog dyn p385 a385 := ⟨Tryz.f385, e385, Tryz.func385, by kernel_rfl, c385⟩
theorem s386 : FuncSound Tryz.prog dyn p386 a386 := ⟨Tryz.f386, e386, Tryz.func386, by kernel_rfl, c386⟩
theorem s387 : FuncSound Tryz.prog dyn p387 a387 := ⟨Tryz.f387, e387, Tryz.func387, by kernel_rfl, c387⟩
theorem s388 : FuncSound Tryz.prog dyn p388 a388 := ⟨Tryz.f388, e388, Tryz.func388, by kernel_rfl, c388⟩
theorem s389 : FuncSound Tryz.prog dyn p389 a389 := ⟨Tryz.f389, e389, Tryz.func389, by kernel_rfl, c389⟩
theorem s390 : FuncSound Tryz.prog dyn p390 a390 := ⟨Tryz.f390, e390, Tryz.func390, by kernel_rfl, c390⟩
theorem s392 : FuncSound Tryz.prog dyn p392 a392 := ⟨Tryz.f392, e392, Tryz.func392, by kernel_rfl, c392⟩
theorem s393 : FuncSound Tryz.prog dyn p393 a393 := ⟨Tryz.f393, e393, Tryz.func393, by kernel_rfl, c393⟩
theorem s394 : FuncSound Tryz.prog dyn p394 a394 := ⟨Tryz.f394, e394, Tryz.func394, by kernel_rfl, c394⟩
theorem s395 : FuncSound Tryz.prog dyn p395 a395 := ⟨Tryz.f395, e395, Tryz.func395, by kernel_rfl, c395⟩
theorem s396 : FuncSound Tryz.prog dyn p396 a396 := ⟨Tryz.f396, e396, Tryz.func396, by kernel_rfl, c396⟩
theorem s397 : FuncSound Tryz.prog dyn p397 a397 := ⟨Tryz.f397, e397, Tryz.func397, by kernel_rfl, c397⟩
theorem s398 : FuncSound Tryz.prog dyn p398 a398 := ⟨Tryz.f398, e398, Tryz.func398, by kernel_rfl, c398⟩
theorem s399 : FuncSound Tryz.prog dyn p399 a399 := ⟨Tryz.f399, e399, Tryz.func399, by kernel_rfl, c399⟩
theorem s400 : FuncSound Tryz.prog dyn p400 a400 := ⟨Tryz.f400, e400, Tryz.func400, by kernel_rfl, c400⟩
theorem s401 : FuncSound Tryz.prog dyn p401 a401 := ⟨Tryz.f401, e401, Tryz.func401, by kernel_rfl, c401⟩
theorem s404 : FuncSound Tryz.prog dyn p404 a404 := ⟨Tryz.f404, e404, Tryz.func404, by kernel_rfl, c404⟩
theorem s405 : FuncSound Tryz.prog dyn p405 a405 := ⟨Tryz.f405, e405, Tryz.func405, by kernel_rfl, c405⟩
theorem s408 : FuncSound Tryz.prog dyn p408 a408 := ⟨Tryz.f408, e408, Tryz.func408, by kernel_rfl, c408⟩
theorem s413 : FuncSound Tryz.prog dyn p413 a413 := ⟨Tryz.f413, e413, Tryz.func413, by kernel_rfl, c413⟩
theorem s434 : FuncSound Tryz.prog dyn p434 a434 := ⟨Tryz.f434, e434, Tryz.func434, by kernel_rfl, c434⟩
theorem s441 : FuncSound Tryz.prog dyn p441 a441 := ⟨Tryz.f441, e441, Tryz.func441, by kernel_rfl, c441⟩
theorem s443 : FuncSound Tryz.prog dyn p443 a443 := ⟨Tryz.f443, e443, Tryz.func443, by kernel_rfl, c443⟩
theorem s444 : FuncSound Tryz.prog dyn p444 a444 := ⟨Tryz.f444, e444, Tryz.func444, by kernel_rfl, c444⟩
theorem s446 : FuncSound Tryz.prog dyn p446 a446 := ⟨Tryz.f446, e446, Tryz.func446, by kernel_rfl, c446⟩
theorem s447 : FuncSound Tryz.prog dyn p447 a447 := ⟨Tryz.f447, e447, Tryz.func447, by kernel_rfl, c447⟩
theorem s451 : FuncSound Tryz.prog dyn p451 a451 := ⟨Tryz.f451, e451, Tryz.func451, by kernel_rfl, c451⟩
theorem s452 : FuncSound Tryz.prog dyn p452 a452 := ⟨Tryz.f452, e452, Tryz.func452, by kernel_rfl, c452⟩
theorem s453 : FuncSound Tryz.prog dyn p453 a453 := ⟨Tryz.f453, e453, Tryz.func453, by kernel_rfl, c453⟩
theorem s455 : FuncSound Tryz.prog dyn p455 a455 := ⟨Tryz.f455, e455, Tryz.func455, by kernel_rfl, c455⟩
theorem s456 : FuncSound Tryz.prog dyn p456 a456 := ⟨Tryz.f456, e456, Tryz.func456, by kernel_rfl, c456⟩
theorem s457 : FuncSound Tryz.prog dyn p457 a457 := ⟨Tryz.f457, e457, Tryz.func457, by kernel_rfl, c457⟩
theorem fsok : TrAll (FuncSound Tryz.prog dyn) fs := ⟨tnone, ⟨tnone, ⟨tleaf s3, ⟨tleaf s7, ⟨tleaf s15, ⟨tnone, ⟨tleaf s63, ⟨tnone, trivial, ⟨tleaf s383, trivial, trivial⟩⟩, ⟨tnone, ⟨tleaf s319, trivial, trivial⟩, ⟨tleaf s447, trivial, trivial⟩⟩⟩, ⟨tleaf s95, trivial, trivial⟩⟩, ⟨tleaf s47, ⟨tnone, ⟨tnone, trivial, ⟨tleaf s399, trivial, trivial⟩⟩, ⟨tleaf s207, trivial, trivial⟩⟩, ⟨tnone, ⟨tleaf s175, trivial, trivial⟩, trivial⟩⟩⟩, ⟨tleaf s23, ⟨tnone, ⟨tnone, ⟨tleaf s135, ⟨tleaf s263, trivial, trivial⟩, trivial⟩, ⟨tleaf s199, trivial, ⟨tleaf s455, trivial, trivial⟩⟩⟩, ⟨tleaf s103, ⟨tleaf s167, trivial, trivial⟩, ⟨tleaf s231, trivial, trivial⟩⟩⟩, ⟨tleaf s55, ⟨tleaf s87, ⟨tleaf s151, trivial, trivial⟩, ⟨tnone, ⟨tleaf s343, trivial, trivial⟩, trivial⟩⟩, ⟨tleaf s119, trivial, ⟨tleaf s247, ⟨tleaf s375, trivial, trivial⟩, trivial⟩⟩⟩⟩⟩, ⟨tleaf s11, ⟨tnone, ⟨tnone, ⟨tleaf s67, ⟨tnone, trivial, ⟨tleaf s387, trivial, trivial⟩⟩, ⟨tleaf s195, trivial, ⟨tleaf s451, trivial, trivial⟩⟩⟩, ⟨tleaf s99, ⟨tleaf s163, trivial, trivial⟩, ⟨tleaf s227, trivial, trivial⟩⟩⟩, ⟨tleaf s51, ⟨tnone, ⟨tleaf s147, trivial, trivial⟩, ⟨tleaf s211, trivial, trivial⟩⟩, ⟨tleaf s115, ⟨tleaf s179, trivial, trivial⟩, ⟨tnone, ⟨tleaf s371, trivial, trivial⟩, trivial⟩⟩⟩⟩, ⟨tleaf s27, ⟨tleaf s43, ⟨tleaf s75, ⟨tnone, trivial, ⟨tleaf s395, trivial, trivial⟩⟩, ⟨tleaf s203, trivial, trivial⟩⟩, ⟨tleaf s107, ⟨tleaf s171, trivial, trivial⟩, trivial⟩⟩, ⟨tleaf s59, ⟨tleaf s91, trivial, ⟨tleaf s219, trivial, trivial⟩⟩, ⟨tleaf s123, ⟨tnone, trivial, ⟨tleaf s443, trivial, trivial⟩⟩, trivial⟩⟩⟩⟩⟩, ⟨tnone, ⟨tleaf s9, ⟨tleaf s17, ⟨tleaf s33, ⟨tleaf s65, ⟨tnone, trivial, ⟨tleaf s385, trivial, trivial⟩⟩, trivial⟩, ⟨tleaf s97, ⟨tleaf s161, trivial, trivial⟩, ⟨tleaf s225, trivial, trivial⟩⟩⟩, ⟨tleaf s49, ⟨tleaf s81, ⟨tleaf s145, trivial, ⟨tleaf s401, trivial, trivial⟩⟩, ⟨tleaf s209, trivial, trivial⟩⟩, ⟨tleaf s113, ⟨tleaf s177, trivial, trivial⟩, ⟨tleaf s241, ⟨tleaf s369, trivial, trivial⟩, trivial⟩⟩⟩⟩, ⟨tleaf s25, ⟨tleaf s41, ⟨tnone, ⟨tleaf s137, trivial, ⟨tleaf s393, trivial, trivial⟩⟩, ⟨tleaf s201, trivial, ⟨tleaf s457, trivial, trivial⟩⟩⟩, ⟨tleaf s105, trivial, trivial⟩⟩, ⟨tleaf s57, ⟨tleaf s89, ⟨tleaf s153, trivial, trivial⟩, ⟨tleaf s217, trivial, trivial⟩⟩, ⟨tnone, ⟨tnone, trivial, ⟨tleaf s441, trivial, trivial⟩⟩, ⟨tnone, ⟨tleaf s377, trivial, trivial⟩, trivial⟩⟩⟩⟩⟩, ⟨tleaf s13, ⟨tleaf s21, ⟨tnone, ⟨tleaf s69, ⟨tnone, trivial, ⟨tleaf s389, trivial, trivial⟩⟩, ⟨tleaf s197, trivial, ⟨tleaf s453, trivial, trivial⟩⟩⟩, ⟨tleaf s101, ⟨tleaf s165, trivial, trivial⟩, ⟨tleaf s229, trivial, trivial⟩⟩⟩, ⟨tleaf s53, ⟨tleaf s85, ⟨tleaf s149, trivial, ⟨tleaf s405, trivial, trivial⟩⟩, trivial⟩, ⟨tnone, ⟨tleaf s181, trivial, trivial⟩, ⟨tleaf s245, ⟨tleaf s373, trivial, trivial⟩, trivial⟩⟩⟩⟩, ⟨tleaf s29, ⟨tleaf s45, ⟨tleaf s77, ⟨tleaf s141, ⟨tleaf s269, trivial, trivial⟩, ⟨tleaf s397, trivial, trivial⟩⟩, ⟨tleaf s205, trivial, trivial⟩⟩, ⟨tnone, ⟨tleaf s173, ⟨tleaf s301, trivial, trivial⟩, trivial⟩, ⟨tleaf s237, trivial, trivial⟩⟩⟩, ⟨tleaf s61, ⟨tnone, ⟨tnone, trivial, ⟨tleaf s413, trivial, trivial⟩⟩, trivial⟩, ⟨tnone, trivial, ⟨tleaf s253, trivial, trivial⟩⟩⟩⟩⟩⟩⟩, ⟨tnone, ⟨tleaf s4, ⟨tleaf s8, ⟨tleaf s16, ⟨tnone, ⟨tleaf s64, ⟨tnone, trivial, ⟨tleaf s384, trivial, trivial⟩⟩, trivial⟩, ⟨tleaf s96, ⟨tleaf s160, trivial, trivial⟩, ⟨tleaf s224, trivial, trivial⟩⟩⟩, ⟨tleaf s48, ⟨tleaf s80, ⟨tnone, trivial, ⟨tleaf s400, trivial, trivial⟩⟩, ⟨tleaf s208, trivial, trivial⟩⟩, ⟨tleaf s112, ⟨tleaf s176, trivial, trivial⟩, ⟨tleaf s240, trivial, trivial⟩⟩⟩⟩, ⟨tleaf s24, ⟨tleaf s40, ⟨tnone, ⟨tnone, trivial, ⟨tleaf s392, trivial, trivial⟩⟩, ⟨tleaf s200, trivial, ⟨tleaf s456, trivial, trivial⟩⟩⟩, ⟨tnone, ⟨tleaf s168, trivial, trivial⟩, trivial⟩⟩, ⟨tleaf s56, ⟨tleaf s88, ⟨tleaf s152, ⟨tleaf s280, trivial, trivial⟩, ⟨tleaf s408, trivial, trivial⟩⟩, trivial⟩, ⟨tleaf s120, ⟨tleaf s184, trivial, trivial⟩, trivial⟩⟩⟩⟩, ⟨tleaf s12, ⟨tleaf s20, ⟨tnone, ⟨tleaf s68, ⟨tleaf s132, ⟨tleaf s260, trivial, trivial⟩, ⟨tleaf s388, trivial, trivial⟩⟩, ⟨tleaf s196, ⟨tleaf s324, trivial, trivial⟩, ⟨tleaf s452, trivial, trivial⟩⟩⟩, ⟨tleaf s100, ⟨tleaf s164, trivial, trivial⟩, ⟨tleaf s228, trivial, trivial⟩⟩⟩, ⟨tleaf s52, ⟨tleaf s84, ⟨tleaf s148, trivial, ⟨tleaf s404, trivial, trivial⟩⟩, trivial⟩, ⟨tnone, ⟨tleaf s180, trivial, trivial⟩, ⟨tnone, ⟨tleaf s372, trivial, trivial⟩, trivial⟩⟩⟩⟩, ⟨tnone, ⟨tleaf s44, ⟨tleaf s76, ⟨tnone, ⟨tleaf s268, trivial, trivial⟩, ⟨tleaf s396, trivial, trivial⟩⟩, trivial⟩, ⟨tleaf s108, ⟨tleaf s172, trivial, trivial⟩, trivial⟩⟩, ⟨tnone, ⟨tleaf s92, ⟨tleaf s156, trivial, trivial⟩, ⟨tleaf s220, trivial, trivial⟩⟩, ⟨tnone, ⟨tnone, trivial, ⟨tleaf s444, trivial, trivial⟩⟩, ⟨tleaf s252, ⟨tleaf s380, trivial, trivial⟩, trivial⟩⟩⟩⟩⟩⟩, ⟨tleaf s6, ⟨tleaf s10, ⟨tleaf s18, ⟨tleaf s34, ⟨tnone, ⟨tnone, trivial, ⟨tleaf s386, trivial, trivial⟩⟩, trivial⟩, ⟨tnone, ⟨tleaf s162, ⟨tleaf s290, trivial, trivial⟩, trivial⟩, ⟨tleaf s226, trivial, trivial⟩⟩⟩, ⟨tleaf s50, ⟨tnone, ⟨tleaf s146, trivial, trivial⟩, trivial⟩, ⟨tleaf s114, ⟨tnone, trivial, ⟨tleaf s434, trivial, trivial⟩⟩, ⟨tnone, ⟨tleaf s370, trivial, trivial⟩, trivial⟩⟩⟩⟩, ⟨tleaf s26, ⟨tleaf s42, ⟨tleaf s74, ⟨tleaf s138, trivial, ⟨tleaf s394, trivial, trivial⟩⟩, ⟨tleaf s202, trivial, trivial⟩⟩, ⟨tleaf s106, ⟨tleaf s170, trivial, trivial⟩, ⟨tleaf s234, trivial, trivial⟩⟩⟩, ⟨tleaf s58, ⟨tleaf s90, ⟨tleaf s154, trivial, trivial⟩, ⟨tleaf s218, trivial, trivial⟩⟩, trivial⟩⟩⟩, ⟨tleaf s14, ⟨tleaf s22, ⟨tnone, ⟨tleaf s70, ⟨tleaf s134, ⟨tleaf s262, trivial, trivial⟩, ⟨tleaf s390, trivial, trivial⟩⟩, ⟨tleaf s198, trivial, trivial⟩⟩, ⟨tleaf s102, ⟨tleaf s166, trivial, trivial⟩, ⟨tleaf s230, trivial, trivial⟩⟩⟩, ⟨tleaf s54, ⟨tleaf s86, ⟨tleaf s150, ⟨tleaf s278, trivial, trivial⟩, trivial⟩, trivial⟩, ⟨tleaf s118, trivial, ⟨tnone, ⟨tleaf s374, trivial, trivial⟩, trivial⟩⟩⟩⟩, ⟨tleaf s30, ⟨tleaf s46, ⟨tnone, ⟨tleaf s142, ⟨tleaf s270, trivial, trivial⟩, ⟨tleaf s398, trivial, trivial⟩⟩, ⟨tleaf s206, trivial, trivial⟩⟩, ⟨tleaf s110, ⟨tleaf s174, trivial, trivial⟩, trivial⟩⟩, ⟨tleaf s62, ⟨tleaf s94, ⟨tleaf s158, trivial, trivial⟩, trivial⟩, ⟨tnone, ⟨tnone, trivial, ⟨tleaf s446, trivial, trivial⟩⟩, ⟨tleaf s254, ⟨tleaf s382, trivial, trivial⟩, trivial⟩⟩⟩⟩⟩⟩⟩⟩
theorem mixed : Tryz.prog.follows .mixedOrders = true := by kernel_rfl
theorem x336a : (Tryz.f336.name == "runtime.NumGoroutine") = false := by kernel_rfl
theorem x336b : Tryz.f336.body.isNone = true := by kernel_rfl
theorem x336c : Extern.findNext Tryz.f336 = none := by kernel_rfl
theorem x336d : Extern.find Tryz.f336 = some Extern.BytealgIndexByte.indexByte := by kernel_rfl
theorem x336e : Tryz.prog.funcs[p336.nat - 1]? = some Tryz.f336 := Tryz.func336
theorem h336 : HookSound Tryz.prog p336 hkIndexByte := indexByte_sound ⟨⟨Tryz.f336, x336e, x336a, x336b, x336c, x336d⟩⟩
theorem x314a : (Tryz.f314.name == "runtime.NumGoroutine") = false := by kernel_rfl
theorem x314b : Tryz.f314.body.isNone = true := by kernel_rfl
theorem x314c : Extern.findNext Tryz.f314 = none := by kernel_rfl
theorem x314d : Extern.find Tryz.f314 = some Extern.BytealgCount.count := by kernel_rfl
theorem x314e : Tryz.prog.funcs[p314.nat - 1]? = some Tryz.f314 := Tryz.func314
theorem h314 : HookSound Tryz.prog p314 hkCount := count_sound ⟨⟨Tryz.f314, x314e, x314a, x314b, x314c, x314d⟩⟩
theorem x144a : (Tryz.f144.name == "runtime.NumGoroutine") = false := by kernel_rfl
theorem x144b : compDefer Tryz.prog dyn e144 Tryz.f144 = some d144 := by kernel_rfl
theorem x144c : (Tryz.f201.name == "runtime.NumGoroutine") = false := by kernel_rfl
theorem x144d : Tryz.prog.funcs[d144.g]? = some Tryz.f201 := Tryz.func201
theorem x144e : Tryz.prog.funcs[p144.nat - 1]? = some Tryz.f144 := Tryz.func144
theorem h144 : HookSound Tryz.prog p144 (hkDefer 100000 d144 a201) := defer_sound mixed x144e x144a x144b x144d x144c c201
theorem x299a : (Tryz.f299.name == "runtime.NumGoroutine") = false := by kernel_rfl
theorem x299b : Tryz.f299.body.isNone = true := by kernel_rfl
theorem x299c : Extern.findNext Tryz.f299 = none := by kernel_rfl
theorem x299d : Extern.find Tryz.f299 = some Extern.BytealgIndexByte.indexByte := by kernel_rfl
theorem x299e : Tryz.prog.funcs[p299.nat - 1]? = some Tryz.f299 := Tryz.func299
theorem h299 : HookSound Tryz.prog p299 hkIndexByte := indexByte_sound ⟨⟨Tryz.f299, x299e, x299a, x299b, x299c, x299d⟩⟩
theorem x391a : (Tryz.f391.name == "runtime.NumGoroutine") = false := by kernel_rfl
theorem x391b : Tryz.f391.body.isNone = false := by kernel_rfl
theorem x391e : Tryz.prog.funcs[p391.nat - 1]? = some Tryz.f391 := Tryz.func391
theorem h391 : HookSound Tryz.prog p391 hkJoin := join_sound lays extra rfl x391e x391a x391b
theorem x73a : (Tryz.f73.name == "runtime.NumGoroutine") = false := by kernel_rfl
theorem x73b : compIs Tryz.prog dyn e73 117 Tryz.f73 = some q73 := by kernel_rfl
theorem x73e : Tryz.prog.funcs[p73.nat - 1]? = some Tryz.f73 := Tryz.func73
theorem x73t27 : ∃ hv, (∀ v w, (callFunc 117 #[.iface 27 v]).run Tryz.prog w = .ok (.value hv) w) ∧ (∀ w, (invoke (.fn (.method "Comparable") #[]) #[hv]).run Tryz.prog w = .ok (.value (.bool true)) w) := ⟨.iface 339 (.agg #[typeHandle Tryz.prog 27]), fun v w => by kernel_rfl, fun w => by kernel_rfl⟩
theorem x73t448 : ∃ hv, (∀ v w, (callFunc 117 #[.iface 448 v]).run Tryz.prog w = .ok (.value hv) w) ∧ (∀ w, (invoke (.fn (.method "Comparable") #[]) #[hv]).run Tryz.prog w = .ok (.value (.bool true)) w) := ⟨.iface 339 (.agg #[typeHandle Tryz.prog 448]), fun v w => by kernel_rfl, fun w => by kernel_rfl⟩
theorem x73f : IsOk Tryz.prog 117 [27, 448] := by
  intro t ht
  simp only [List.mem_cons, List.mem_nil_iff, or_false] at ht
  rcases ht with rfl | rfl
  · exact x73t27
  · exact x73t448
theorem h73 : HookSound Tryz.prog p73 (hkIs 100000 [27, 448] q73) := is_sound mixed x73e x73a x73b x73f
theorem hksok0 : TrAll (HookSound Tryz.prog) hks0 := ⟨tnone, ⟨tnone, ⟨tnone, ⟨tnone, trivial, ⟨tnone, ⟨tnone, ⟨tnone, ⟨tnone, trivial, ⟨tleaf h391, trivial, trivial⟩⟩, trivial⟩, trivial⟩, trivial⟩⟩, ⟨tnone, trivial, ⟨tnone, ⟨tnone, trivial, ⟨tnone, ⟨tnone, ⟨tleaf h299, trivial, trivial⟩, trivial⟩, trivial⟩⟩, trivial⟩⟩⟩, ⟨tnone, ⟨tnone, trivial, ⟨tnone, ⟨tnone, ⟨tleaf h73, trivial, trivial⟩, trivial⟩, trivial⟩⟩, trivial⟩⟩, ⟨tnone, ⟨tnone, ⟨tnone, ⟨tnone, trivial, ⟨tnone, ⟨tnone, ⟨tleaf h144, trivial, trivial⟩, ⟨tnone, ⟨tleaf h336, trivial, trivial⟩, trivial⟩⟩, trivial⟩⟩, trivial⟩, trivial⟩, ⟨tnone, ⟨tnone, trivial, ⟨tnone, trivial, ⟨tnone, trivial, ⟨tnone, ⟨tnone, ⟨tleaf h314, trivial, trivial⟩, trivial⟩, trivial⟩⟩⟩⟩, trivial⟩⟩⟩
theorem sound0 (d : Nat) : CSound Tryz.prog (callF prog0 100000 d) := prog_sound (dyn := dyn) mixed hksok0 fsok d
theorem begunRun : isTrue (callF prog0 100000 60 p4 [] (.mk .e .lf)) = true := by kernel_rfl
theorem x4a : (Tryz.f4.name == "runtime.NumGoroutine") = false := by kernel_rfl
theorem x4b : Tryz.f4.body.isNone = false := by kernel_rfl
theorem x4e : Tryz.prog.funcs[p4.nat - 1]? = some Tryz.f4 := Tryz.func4
theorem x5a : (Tryz.f5.name == "runtime.NumGoroutine") = false := by kernel_rfl
theorem x5b : Tryz.f5.body.isNone = false := by kernel_rfl
theorem x5e : Tryz.prog.funcs[p5.nat - 1]? = some Tryz.f5 := Tryz.func5
theorem h4 : HookSound Tryz.prog p4 hkTrue := true_sound (sound0 60) x4e x4a x4b begunRun
theorem h5 (tab : List (Nat × Nat × Nat)) (ht : RestOk Tryz.prog p5 tab) : HookSound Tryz.prog p5 (hkSmall tab) := small_sound x5e x5a x5b ht
theorem hksok (tab : List (Nat × Nat × Nat)) (ht : RestOk Tryz.prog p5 tab) : TrAll (HookSound Tryz.prog) (hks tab) := ⟨tnone, ⟨tnone, ⟨tnone, ⟨tnone, trivial, ⟨tnone, ⟨tnone, ⟨tnone, ⟨tnone, trivial, ⟨tleaf h391, trivial, trivial⟩⟩, trivial⟩, trivial⟩, trivial⟩⟩, ⟨tnone, trivial, ⟨tnone, ⟨tnone, trivial, ⟨tnone, ⟨tnone, ⟨tleaf h299, trivial, trivial⟩, trivial⟩, trivial⟩⟩, trivial⟩⟩⟩, ⟨tleaf (h5 tab ht), ⟨tnone, trivial, ⟨tnone, ⟨tnone, ⟨tleaf h73, trivial, trivial⟩, trivial⟩, trivial⟩⟩, trivial⟩⟩, ⟨tnone, ⟨tleaf h4, ⟨tnone, ⟨tnone, trivial, ⟨tnone, ⟨tnone, ⟨tleaf h144, trivial, trivial⟩, ⟨tnone, ⟨tleaf h336, trivial, trivial⟩, trivial⟩⟩, trivial⟩⟩, trivial⟩, trivial⟩, ⟨tnone, ⟨tnone, trivial, ⟨tnone, trivial, ⟨tnone, trivial, ⟨tnone, ⟨tnone, ⟨tleaf h314, trivial, trivial⟩, trivial⟩, trivial⟩⟩⟩⟩, trivial⟩⟩⟩
theorem sound (tab : List (Nat × Nat × Nat)) (ht : RestOk Tryz.prog p5 tab) (d : Nat) : CSound Tryz.prog (callF (prog tab) 100000 d) := prog_sound (dyn := dyn) mixed (hksok tab ht) fsok d
-- root 3
end Go.Cg.Law
