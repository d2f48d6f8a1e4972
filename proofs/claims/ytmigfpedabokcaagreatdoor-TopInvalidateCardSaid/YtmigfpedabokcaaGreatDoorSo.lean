/- The evaluator's table of this program is sound. No condition. -/
import Derived.Test.YtmigfpedabokcaaGreatDoorSd5
import Derived.Test.YtmigfpedabokcaaGreatDoorCk1
import Derived.Test.YtmigfpedabokcaaGreatDoorCk2
import Derived.Test.YtmigfpedabokcaaGreatDoorCk3
set_option linter.unusedVariables false
set_option linter.unusedSimpArgs false
set_option linter.unusedSectionVars false
namespace Go.Cg.Law
open Go.Proofs
variable [Syms]
theorem s3 : FuncSound Tryz.prog dyn p3 a3 := ⟨Tryz.f3, e3, Tryz.func3, by kernel_rfl, c3⟩
theorem s4 : FuncSound Tryz.prog dyn p4 a4 := ⟨Tryz.f4, e4, Tryz.func4, by kernel_rfl, c4⟩
theorem s6 : FuncSound Tryz.prog dyn p6 a6 := ⟨Tryz.f6, e6, Tryz.func6, by kernel_rfl, c6⟩
theorem s7 : FuncSound Tryz.prog dyn p7 a7 := ⟨Tryz.f7, e7, Tryz.func7, by kernel_rfl, c7⟩
theorem s8 : FuncSound Tryz.prog dyn p8 a8 := ⟨Tryz.f8, e8, Tryz.func8, by kernel_rfl, c8⟩
theorem s9 : FuncSound Tryz.prog dyn p9 a9 := ⟨Tryz.f9, e9, Tryz.func9, by kernel_rfl, c9⟩
theorem s10 : FuncSound Tryz.prog dyn p10 a10 := ⟨Tryz.f10, e10, Tryz.func10, by kernel_rfl, c10⟩
theorem s11 : FuncSound Tryz.prog dyn p11 a11 := ⟨Tryz.f11, e11, Tryz.func11, by kernel_rfl, c11⟩
theorem s12 : FuncSound Tryz.prog dyn p12 a12 := ⟨Tryz.f12, e12, Tryz.func12, by kernel_rfl, c12⟩
theorem s13 : FuncSound Tryz.prog dyn p13 a13 := ⟨Tryz.f13, e13, Tryz.func13, by kernel_rfl, c13⟩
theorem s14 : FuncSound Tryz.prog dyn p14 a14 := ⟨Tryz.f14, e14, Tryz.func14, by kernel_rfl, c14⟩
theorem s15 : FuncSound Tryz.prog dyn p15 a15 := ⟨Tryz.f15, e15, Tryz.func15, by kernel_rfl, c15⟩
theorem s17 : FuncSound Tryz.prog dyn p17 a17 := ⟨Tryz.f17, e17, Tryz.func17, by kernel_rfl, c17⟩
theorem s21 : FuncSound Tryz.prog dyn p21 a21 := ⟨Tryz.f21, e21, Tryz.func21, by kernel_rfl, c21⟩
theorem s22 : FuncSound Tryz.prog dyn p22 a22 := ⟨Tryz.f22, e22, Tryz.func22, by kernel_rfl, c22⟩
theorem s23 : FuncSound Tryz.prog dyn p23 a23 := ⟨Tryz.f23, e23, Tryz.func23, by kernel_rfl, c23⟩
theorem s24 : FuncSound Tryz.prog dyn p24 a24 := ⟨Tryz.f24, e24, Tryz.func24, by kernel_rfl, c24⟩
theorem s25 : FuncSound Tryz.prog dyn p25 a25 := ⟨Tryz.f25, e25, Tryz.func25, by kernel_rfl, c25⟩
theorem s26 : FuncSound Tryz.prog dyn p26 a26 := ⟨Tryz.f26, e26, Tryz.func26, by kernel_rfl, c26⟩
theorem s29 : FuncSound Tryz.prog dyn p29 a29 := ⟨Tryz.f29, e29, Tryz.func29, by kernel_rfl, c29⟩
theorem s30 : FuncSound Tryz.prog dyn p30 a30 := ⟨Tryz.f30, e30, Tryz.func30, by kernel_rfl, c30⟩
theorem s31 : FuncSound Tryz.prog dyn p31 a31 := ⟨Tryz.f31, e31, Tryz.func31, by kernel_rfl, c31⟩
theorem s32 : FuncSound Tryz.prog dyn p32 a32 := ⟨Tryz.f32, e32, Tryz.func32, by kernel_rfl, c32⟩
theorem s33 : FuncSound Tryz.prog dyn p33 a33 := ⟨Tryz.f33, e33, Tryz.func33, by kernel_rfl, c33⟩
theorem s35 : FuncSound Tryz.prog dyn p35 a35 := ⟨Tryz.f35, e35, Tryz.func35, by kernel_rfl, c35⟩
theorem s36 : FuncSound Tryz.prog dyn p36 a36 := ⟨Tryz.f36, e36, Tryz.func36, by kernel_rfl, c36⟩
theorem s37 : FuncSound Tryz.prog dyn p37 a37 := ⟨Tryz.f37, e37, Tryz.func37, by kernel_rfl, c37⟩
theorem s38 : FuncSound Tryz.prog dyn p38 a38 := ⟨Tryz.f38, e38, Tryz.func38, by kernel_rfl, c38⟩
theorem s39 : FuncSound Tryz.prog dyn p39 a39 := ⟨Tryz.f39, e39, Tryz.func39, by kernel_rfl, c39⟩
theorem s41 : FuncSound Tryz.prog dyn p41 a41 := ⟨Tryz.f41, e41, Tryz.func41, by kernel_rfl, c41⟩
theorem s42 : FuncSound Tryz.prog dyn p42 a42 := ⟨Tryz.f42, e42, Tryz.func42, by kernel_rfl, c42⟩
theorem s48 : FuncSound Tryz.prog dyn p48 a48 := ⟨Tryz.f48, e48, Tryz.func48, by kernel_rfl, c48⟩
theorem s49 : FuncSound Tryz.prog dyn p49 a49 := ⟨Tryz.f49, e49, Tryz.func49, by kernel_rfl, c49⟩
theorem s50 : FuncSound Tryz.prog dyn p50 a50 := ⟨Tryz.f50, e50, Tryz.func50, by kernel_rfl, c50⟩
theorem s51 : FuncSound Tryz.prog dyn p51 a51 := ⟨Tryz.f51, e51, Tryz.func51, by kernel_rfl, c51⟩
theorem s52 : FuncSound Tryz.prog dyn p52 a52 := ⟨Tryz.f52, e52, Tryz.func52, by kernel_rfl, c52⟩
theorem s53 : FuncSound Tryz.prog dyn p53 a53 := ⟨Tryz.f53, e53, Tryz.func53, by kernel_rfl, c53⟩
theorem s54 : FuncSound Tryz.prog dyn p54 a54 := ⟨Tryz.f54, e54, Tryz.func54, by kernel_rfl, c54⟩
theorem s55 : FuncSound Tryz.prog dyn p55 a55 := ⟨Tryz.f55, e55, Tryz.func55, by kernel_rfl, c55⟩
theorem s56 : FuncSound Tryz.prog dyn p56 a56 := ⟨Tryz.f56, e56, Tryz.func56, by kernel_rfl, c56⟩
theorem s57 : FuncSound Tryz.prog dyn p57 a57 := ⟨Tryz.f57, e57, Tryz.func57, by kernel_rfl, c57⟩
theorem s58 : FuncSound Tryz.prog dyn p58 a58 := ⟨Tryz.f58, e58, Tryz.func58, by kernel_rfl, c58⟩
theorem s59 : FuncSound Tryz.prog dyn p59 a59 := ⟨Tryz.f59, e59, Tryz.func59, by kernel_rfl, c59⟩
theorem s60 : FuncSound Tryz.prog dyn p60 a60 := ⟨Tryz.f60, e60, Tryz.func60, by kernel_rfl, c60⟩
theorem s61 : FuncSound Tryz.prog dyn p61 a61 := ⟨Tryz.f61, e61, Tryz.func61, by kernel_rfl, c61⟩
theorem s62 : FuncSound Tryz.prog dyn p62 a62 := ⟨Tryz.f62, e62, Tryz.func62, by kernel_rfl, c62⟩
theorem s63 : FuncSound Tryz.prog dyn p63 a63 := ⟨Tryz.f63, e63, Tryz.func63, by kernel_rfl, c63⟩
theorem s64 : FuncSound Tryz.prog dyn p64 a64 := ⟨Tryz.f64, e64, Tryz.func64, by kernel_rfl, c64⟩
theorem s65 : FuncSound Tryz.prog dyn p65 a65 := ⟨Tryz.f65, e65, Tryz.func65, by kernel_rfl, c65⟩
theorem s66 : FuncSound Tryz.prog dyn p66 a66 := ⟨Tryz.f66, e66, Tryz.func66, by kernel_rfl, c66⟩
theorem s67 : FuncSound Tryz.prog dyn p67 a67 := ⟨Tryz.f67, e67, Tryz.func67, by kernel_rfl, c67⟩
theorem s70 : FuncSound Tryz.prog dyn p70 a70 := ⟨Tryz.f70, e70, Tryz.func70, by kernel_rfl, c70⟩
theorem s71 : FuncSound Tryz.prog dyn p71 a71 := ⟨Tryz.f71, e71, Tryz.func71, by kernel_rfl, c71⟩
theorem s72 : FuncSound Tryz.prog dyn p72 a72 := ⟨Tryz.f72, e72, Tryz.func72, by kernel_rfl, c72⟩
theorem s73 : FuncSound Tryz.prog dyn p73 a73 := ⟨Tryz.f73, e73, Tryz.func73, by kernel_rfl, c73⟩
theorem s74 : FuncSound Tryz.prog dyn p74 a74 := ⟨Tryz.f74, e74, Tryz.func74, by kernel_rfl, c74⟩
theorem s75 : FuncSound Tryz.prog dyn p75 a75 := ⟨Tryz.f75, e75, Tryz.func75, by kernel_rfl, c75⟩
theorem s76 : FuncSound Tryz.prog dyn p76 a76 := ⟨Tryz.f76, e76, Tryz.func76, by kernel_rfl, c76⟩
theorem s77 : FuncSound Tryz.prog dyn p77 a77 := ⟨Tryz.f77, e77, Tryz.func77, by kernel_rfl, c77⟩
theorem s78 : FuncSound Tryz.prog dyn p78 a78 := ⟨Tryz.f78, e78, Tryz.func78, by kernel_rfl, c78⟩
theorem s80 : FuncSound Tryz.prog dyn p80 a80 := ⟨Tryz.f80, e80, Tryz.func80, by kernel_rfl, c80⟩
theorem s81 : FuncSound Tryz.prog dyn p81 a81 := ⟨Tryz.f81, e81, Tryz.func81, by kernel_rfl, c81⟩
theorem s82 : FuncSound Tryz.prog dyn p82 a82 := ⟨Tryz.f82, e82, Tryz.func82, by kernel_rfl, c82⟩
theorem s83 : FuncSound Tryz.prog dyn p83 a83 := ⟨Tryz.f83, e83, Tryz.func83, by kernel_rfl, c83⟩
theorem s84 : FuncSound Tryz.prog dyn p84 a84 := ⟨Tryz.f84, e84, Tryz.func84, by kernel_rfl, c84⟩
theorem s90 : FuncSound Tryz.prog dyn p90 a90 := ⟨Tryz.f90, e90, Tryz.func90, by kernel_rfl, c90⟩
theorem s91 : FuncSound Tryz.prog dyn p91 a91 := ⟨Tryz.f91, e91, Tryz.func91, by kernel_rfl, c91⟩
theorem s92 : FuncSound Tryz.prog dyn p92 a92 := ⟨Tryz.f92, e92, Tryz.func92, by kernel_rfl, c92⟩
theorem s94 : FuncSound Tryz.prog dyn p94 a94 := ⟨Tryz.f94, e94, Tryz.func94, by kernel_rfl, c94⟩
theorem s95 : FuncSound Tryz.prog dyn p95 a95 := ⟨Tryz.f95, e95, Tryz.func95, by kernel_rfl, c95⟩
theorem s96 : FuncSound Tryz.prog dyn p96 a96 := ⟨Tryz.f96, e96, Tryz.func96, by kernel_rfl, c96⟩
theorem s97 : FuncSound Tryz.prog dyn p97 a97 := ⟨Tryz.f97, e97, Tryz.func97, by kernel_rfl, c97⟩
theorem s98 : FuncSound Tryz.prog dyn p98 a98 := ⟨Tryz.f98, e98, Tryz.func98, by kernel_rfl, c98⟩
theorem s100 : FuncSound Tryz.prog dyn p100 a100 := ⟨Tryz.f100, e100, Tryz.func100, by kernel_rfl, c100⟩
theorem s101 : FuncSound Tryz.prog dyn p101 a101 := ⟨Tryz.f101, e101, Tryz.func101, by kernel_rfl, c101⟩
theorem s102 : FuncSound Tryz.prog dyn p102 a102 := ⟨Tryz.f102, e102, Tryz.func102, by kernel_rfl, c102⟩
theorem s104 : FuncSound Tryz.prog dyn p104 a104 := ⟨Tryz.f104, e104, Tryz.func104, by kernel_rfl, c104⟩
theorem s105 : FuncSound Tryz.prog dyn p105 a105 := ⟨Tryz.f105, e105, Tryz.func105, by kernel_rfl, c105⟩
theorem s106 : FuncSound Tryz.prog dyn p106 a106 := ⟨Tryz.f106, e106, Tryz.func106, by kernel_rfl, c106⟩
theorem s107 : FuncSound Tryz.prog dyn p107 a107 := ⟨Tryz.f107, e107, Tryz.func107, by kernel_rfl, c107⟩
theorem s115 : FuncSound Tryz.prog dyn p115 a115 := ⟨Tryz.f115, e115, Tryz.func115, by kernel_rfl, c115⟩
theorem s116 : FuncSound Tryz.prog dyn p116 a116 := ⟨Tryz.f116, e116, Tryz.func116, by kernel_rfl, c116⟩
theorem s117 : FuncSound Tryz.prog dyn p117 a117 := ⟨Tryz.f117, e117, Tryz.func117, by kernel_rfl, c117⟩
theorem s118 : FuncSound Tryz.prog dyn p118 a118 := ⟨Tryz.f118, e118, Tryz.func118, by kernel_rfl, c118⟩
theorem s119 : FuncSound Tryz.prog dyn p119 a119 := ⟨Tryz.f119, e119, Tryz.func119, by kernel_rfl, c119⟩
theorem s120 : FuncSound Tryz.prog dyn p120 a120 := ⟨Tryz.f120, e120, Tryz.func120, by kernel_rfl, c120⟩
theorem s121 : FuncSound Tryz.prog dyn p121 a121 := ⟨Tryz.f121, e121, Tryz.func121, by kernel_rfl, c121⟩
theorem s124 : FuncSound Tryz.prog dyn p124 a124 := ⟨Tryz.f124, e124, Tryz.func124, by kernel_rfl, c124⟩
theorem s125 : FuncSound Tryz.prog dyn p125 a125 := ⟨Tryz.f125, e125, Tryz.func125, by kernel_rfl, c125⟩
theorem s126 : FuncSound Tryz.prog dyn p126 a126 := ⟨Tryz.f126, e126, Tryz.func126, by kernel_rfl, c126⟩
theorem s127 : FuncSound Tryz.prog dyn p127 a127 := ⟨Tryz.f127, e127, Tryz.func127, by kernel_rfl, c127⟩
theorem s128 : FuncSound Tryz.prog dyn p128 a128 := ⟨Tryz.f128, e128, Tryz.func128, by kernel_rfl, c128⟩
theorem s129 : FuncSound Tryz.prog dyn p129 a129 := ⟨Tryz.f129, e129, Tryz.func129, by kernel_rfl, c129⟩
theorem s130 : FuncSound Tryz.prog dyn p130 a130 := ⟨Tryz.f130, e130, Tryz.func130, by kernel_rfl, c130⟩
theorem s131 : FuncSound Tryz.prog dyn p131 a131 := ⟨Tryz.f131, e131, Tryz.func131, by kernel_rfl, c131⟩
theorem s132 : FuncSound Tryz.prog dyn p132 a132 := ⟨Tryz.f132, e132, Tryz.func132, by kernel_rfl, c132⟩
theorem s133 : FuncSound Tryz.prog dyn p133 a133 := ⟨Tryz.f133, e133, Tryz.func133, by kernel_rfl, c133⟩
theorem s134 : FuncSound Tryz.prog dyn p134 a134 := ⟨Tryz.f134, e134, Tryz.func134, by kernel_rfl, c134⟩
theorem s135 : FuncSound Tryz.prog dyn p135 a135 := ⟨Tryz.f135, e135, Tryz.func135, by kernel_rfl, c135⟩
theorem s136 : FuncSound Tryz.prog dyn p136 a136 := ⟨Tryz.f136, e136, Tryz.func136, by kernel_rfl, c136⟩
theorem s144 : FuncSound Tryz.prog dyn p144 a144 := ⟨Tryz.f144, e144, Tryz.func144, by kernel_rfl, c144⟩
theorem s145 : FuncSound Tryz.prog dyn p145 a145 := ⟨Tryz.f145, e145, Tryz.func145, by kernel_rfl, c145⟩
theorem s146 : FuncSound Tryz.prog dyn p146 a146 := ⟨Tryz.f146, e146, Tryz.func146, by kernel_rfl, c146⟩
theorem s147 : FuncSound Tryz.prog dyn p147 a147 := ⟨Tryz.f147, e147, Tryz.func147, by kernel_rfl, c147⟩
theorem s148 : FuncSound Tryz.prog dyn p148 a148 := ⟨Tryz.f148, e148, Tryz.func148, by kernel_rfl, c148⟩
theorem s149 : FuncSound Tryz.prog dyn p149 a149 := ⟨Tryz.f149, e149, Tryz.func149, by kernel_rfl, c149⟩
theorem s150 : FuncSound Tryz.prog dyn p150 a150 := ⟨Tryz.f150, e150, Tryz.func150, by kernel_rfl, c150⟩
theorem s151 : FuncSound Tryz.prog dyn p151 a151 := ⟨Tryz.f151, e151, Tryz.func151, by kernel_rfl, c151⟩
theorem s153 : FuncSound Tryz.prog dyn p153 a153 := ⟨Tryz.f153, e153, Tryz.func153, by kernel_rfl, c153⟩
theorem s154 : FuncSound Tryz.prog dyn p154 a154 := ⟨Tryz.f154, e154, Tryz.func154, by kernel_rfl, c154⟩
theorem s155 : FuncSound Tryz.prog dyn p155 a155 := ⟨Tryz.f155, e155, Tryz.func155, by kernel_rfl, c155⟩
theorem s156 : FuncSound Tryz.prog dyn p156 a156 := ⟨Tryz.f156, e156, Tryz.func156, by kernel_rfl, c156⟩
theorem s157 : FuncSound Tryz.prog dyn p157 a157 := ⟨Tryz.f157, e157, Tryz.func157, by kernel_rfl, c157⟩
theorem s158 : FuncSound Tryz.prog dyn p158 a158 := ⟨Tryz.f158, e158, Tryz.func158, by kernel_rfl, c158⟩
theorem s159 : FuncSound Tryz.prog dyn p159 a159 := ⟨Tryz.f159, e159, Tryz.func159, by kernel_rfl, c159⟩
theorem s160 : FuncSound Tryz.prog dyn p160 a160 := ⟨Tryz.f160, e160, Tryz.func160, by kernel_rfl, c160⟩
theorem s161 : FuncSound Tryz.prog dyn p161 a161 := ⟨Tryz.f161, e161, Tryz.func161, by kernel_rfl, c161⟩
theorem s165 : FuncSound Tryz.prog dyn p165 a165 := ⟨Tryz.f165, e165, Tryz.func165, by kernel_rfl, c165⟩
theorem s166 : FuncSound Tryz.prog dyn p166 a166 := ⟨Tryz.f166, e166, Tryz.func166, by kernel_rfl, c166⟩
theorem s167 : FuncSound Tryz.prog dyn p167 a167 := ⟨Tryz.f167, e167, Tryz.func167, by kernel_rfl, c167⟩
theorem s172 : FuncSound Tryz.prog dyn p172 a172 := ⟨Tryz.f172, e172, Tryz.func172, by kernel_rfl, c172⟩
theorem s173 : FuncSound Tryz.prog dyn p173 a173 := ⟨Tryz.f173, e173, Tryz.func173, by kernel_rfl, c173⟩
theorem s174 : FuncSound Tryz.prog dyn p174 a174 := ⟨Tryz.f174, e174, Tryz.func174, by kernel_rfl, c174⟩
theorem s175 : FuncSound Tryz.prog dyn p175 a175 := ⟨Tryz.f175, e175, Tryz.func175, by kernel_rfl, c175⟩
theorem s176 : FuncSound Tryz.prog dyn p176 a176 := ⟨Tryz.f176, e176, Tryz.func176, by kernel_rfl, c176⟩
theorem s179 : FuncSound Tryz.prog dyn p179 a179 := ⟨Tryz.f179, e179, Tryz.func179, by kernel_rfl, c179⟩
theorem s180 : FuncSound Tryz.prog dyn p180 a180 := ⟨Tryz.f180, e180, Tryz.func180, by kernel_rfl, c180⟩
theorem s181 : FuncSound Tryz.prog dyn p181 a181 := ⟨Tryz.f181, e181, Tryz.func181, by kernel_rfl, c181⟩
theorem s182 : FuncSound Tryz.prog dyn p182 a182 := ⟨Tryz.f182, e182, Tryz.func182, by kernel_rfl, c182⟩
theorem s183 : FuncSound Tryz.prog dyn p183 a183 := ⟨Tryz.f183, e183, Tryz.func183, by kernel_rfl, c183⟩
theorem s184 : FuncSound Tryz.prog dyn p184 a184 := ⟨Tryz.f184, e184, Tryz.func184, by kernel_rfl, c184⟩
theorem s185 : FuncSound Tryz.prog dyn p185 a185 := ⟨Tryz.f185, e185, Tryz.func185, by kernel_rfl, c185⟩
theorem s186 : FuncSound Tryz.prog dyn p186 a186 := ⟨Tryz.f186, e186, Tryz.func186, by kernel_rfl, c186⟩
theorem s187 : FuncSound Tryz.prog dyn p187 a187 := ⟨Tryz.f187, e187, Tryz.func187, by kernel_rfl, c187⟩
theorem s188 : FuncSound Tryz.prog dyn p188 a188 := ⟨Tryz.f188, e188, Tryz.func188, by kernel_rfl, c188⟩
theorem s189 : FuncSound Tryz.prog dyn p189 a189 := ⟨Tryz.f189, e189, Tryz.func189, by kernel_rfl, c189⟩
theorem s192 : FuncSound Tryz.prog dyn p192 a192 := ⟨Tryz.f192, e192, Tryz.func192, by kernel_rfl, c192⟩
theorem s193 : FuncSound Tryz.prog dyn p193 a193 := ⟨Tryz.f193, e193, Tryz.func193, by kernel_rfl, c193⟩
theorem s194 : FuncSound Tryz.prog dyn p194 a194 := ⟨Tryz.f194, e194, Tryz.func194, by kernel_rfl, c194⟩
theorem s195 : FuncSound Tryz.prog dyn p195 a195 := ⟨Tryz.f195, e195, Tryz.func195, by kernel_rfl, c195⟩
theorem s198 : FuncSound Tryz.prog dyn p198 a198 := ⟨Tryz.f198, e198, Tryz.func198, by kernel_rfl, c198⟩
theorem s199 : FuncSound Tryz.prog dyn p199 a199 := ⟨Tryz.f199, e199, Tryz.func199, by kernel_rfl, c199⟩
theorem s200 : FuncSound Tryz.prog dyn p200 a200 := ⟨Tryz.f200, e200, Tryz.func200, by kernel_rfl, c200⟩
theorem s202 : FuncSound Tryz.prog dyn p202 a202 := ⟨Tryz.f202, e202, Tryz.func202, by kernel_rfl, c202⟩
theorem s206 : FuncSound Tryz.prog dyn p206 a206 := ⟨Tryz.f206, e206, Tryz.func206, by kernel_rfl, c206⟩
theorem s207 : FuncSound Tryz.prog dyn p207 a207 := ⟨Tryz.f207, e207, Tryz.func207, by kernel_rfl, c207⟩
theorem s208 : FuncSound Tryz.prog dyn p208 a208 := ⟨Tryz.f208, e208, Tryz.func208, by kernel_rfl, c208⟩
theorem s209 : FuncSound Tryz.prog dyn p209 a209 := ⟨Tryz.f209, e209, Tryz.func209, by kernel_rfl, c209⟩
theorem s210 : FuncSound Tryz.prog dyn p210 a210 := ⟨Tryz.f210, e210, Tryz.func210, by kernel_rfl, c210⟩
theorem s211 : FuncSound Tryz.prog dyn p211 a211 := ⟨Tryz.f211, e211, Tryz.func211, by kernel_rfl, c211⟩
theorem s212 : FuncSound Tryz.prog dyn p212 a212 := ⟨Tryz.f212, e212, Tryz.func212, by kernel_rfl, c212⟩
theorem s213 : FuncSound Tryz.prog dyn p213 a213 := ⟨Tryz.f213, e213, Tryz.func213, by kernel_rfl, c213⟩
theorem s214 : FuncSound Tryz.prog dyn p214 a214 := ⟨Tryz.f214, e214, Tryz.func214, by kernel_rfl, c214⟩
theorem s215 : FuncSound Tryz.prog dyn p215 a215 := ⟨Tryz.f215, e215, Tryz.func215, by kernel_rfl, c215⟩
theorem s216 : FuncSound Tryz.prog dyn p216 a216 := ⟨Tryz.f216, e216, Tryz.func216, by kernel_rfl, c216⟩
theorem s218 : FuncSound Tryz.prog dyn p218 a218 := ⟨Tryz.f218, e218, Tryz.func218, by kernel_rfl, c218⟩
theorem s224 : FuncSound Tryz.prog dyn p224 a224 := ⟨Tryz.f224, e224, Tryz.func224, by kernel_rfl, c224⟩
theorem s226 : FuncSound Tryz.prog dyn p226 a226 := ⟨Tryz.f226, e226, Tryz.func226, by kernel_rfl, c226⟩
theorem s228 : FuncSound Tryz.prog dyn p228 a228 := ⟨Tryz.f228, e228, Tryz.func228, by kernel_rfl, c228⟩
theorem s229 : FuncSound Tryz.prog dyn p229 a229 := ⟨Tryz.f229, e229, Tryz.func229, by kernel_rfl, c229⟩
theorem s234 : FuncSound Tryz.prog dyn p234 a234 := ⟨Tryz.f234, e234, Tryz.func234, by kernel_rfl, c234⟩
theorem s235 : FuncSound Tryz.prog dyn p235 a235 := ⟨Tryz.f235, e235, Tryz.func235, by kernel_rfl, c235⟩
theorem s236 : FuncSound Tryz.prog dyn p236 a236 := ⟨Tryz.f236, e236, Tryz.func236, by kernel_rfl, c236⟩
theorem s240 : FuncSound Tryz.prog dyn p240 a240 := ⟨Tryz.f240, e240, Tryz.func240, by kernel_rfl, c240⟩
theorem s241 : FuncSound Tryz.prog dyn p241 a241 := ⟨Tryz.f241, e241, Tryz.func241, by kernel_rfl, c241⟩
theorem s242 : FuncSound Tryz.prog dyn p242 a242 := ⟨Tryz.f242, e242, Tryz.func242, by kernel_rfl, c242⟩
theorem s243 : FuncSound Tryz.prog dyn p243 a243 := ⟨Tryz.f243, e243, Tryz.func243, by kernel_rfl, c243⟩
theorem s244 : FuncSound Tryz.prog dyn p244 a244 := ⟨Tryz.f244, e244, Tryz.func244, by kernel_rfl, c244⟩
theorem s250 : FuncSound Tryz.prog dyn p250 a250 := ⟨Tryz.f250, e250, Tryz.func250, by kernel_rfl, c250⟩
theorem s256 : FuncSound Tryz.prog dyn p256 a256 := ⟨Tryz.f256, e256, Tryz.func256, by kernel_rfl, c256⟩
theorem s260 : FuncSound Tryz.prog dyn p260 a260 := ⟨Tryz.f260, e260, Tryz.func260, by kernel_rfl, c260⟩
theorem s261 : FuncSound Tryz.prog dyn p261 a261 := ⟨Tryz.f261, e261, Tryz.func261, by kernel_rfl, c261⟩
theorem s266 : FuncSound Tryz.prog dyn p266 a266 := ⟨Tryz.f266, e266, Tryz.func266, by kernel_rfl, c266⟩
theorem s267 : FuncSound Tryz.prog dyn p267 a267 := ⟨Tryz.f267, e267, Tryz.func267, by kernel_rfl, c267⟩
theorem s268 : FuncSound Tryz.prog dyn p268 a268 := ⟨Tryz.f268, e268, Tryz.func268, by kernel_rfl, c268⟩
theorem s281 : FuncSound Tryz.prog dyn p281 a281 := ⟨Tryz.f281, e281, Tryz.func281, by kernel_rfl, c281⟩
theorem s284 : FuncSound Tryz.prog dyn p284 a284 := ⟨Tryz.f284, e284, Tryz.func284, by kernel_rfl, c284⟩
theorem s285 : FuncSound Tryz.prog dyn p285 a285 := ⟨Tryz.f285, e285, Tryz.func285, by kernel_rfl, c285⟩
theorem s286 : FuncSound Tryz.prog dyn p286 a286 := ⟨Tryz.f286, e286, Tryz.func286, by kernel_rfl, c286⟩
theorem s302 : FuncSound Tryz.prog dyn p302 a302 := ⟨Tryz.f302, e302, Tryz.func302, by kernel_rfl, c302⟩
theorem s305 : FuncSound Tryz.prog dyn p305 a305 := ⟨Tryz.f305, e305, Tryz.func305, by kernel_rfl, c305⟩
theorem s319 : FuncSound Tryz.prog dyn p319 a319 := ⟨Tryz.f319, e319, Tryz.func319, by kernel_rfl, c319⟩
theorem s352 : FuncSound Tryz.prog dyn p352 a352 := ⟨Tryz.f352, e352, Tryz.func352, by kernel_rfl, c352⟩
theorem s354 : FuncSound Tryz.prog dyn p354 a354 := ⟨Tryz.f354, e354, Tryz.func354, by kernel_rfl, c354⟩
theorem s355 : FuncSound Tryz.prog dyn p355 a355 := ⟨Tryz.f355, e355, Tryz.func355, by kernel_rfl, c355⟩
theorem s356 : FuncSound Tryz.prog dyn p356 a356 := ⟨Tryz.f356, e356, Tryz.func356, by kernel_rfl, c356⟩
theorem s357 : FuncSound Tryz.prog dyn p357 a357 := ⟨Tryz.f357, e357, Tryz.func357, by kernel_rfl, c357⟩
theorem s358 : FuncSound Tryz.prog dyn p358 a358 := ⟨Tryz.f358, e358, Tryz.func358, by kernel_rfl, c358⟩
theorem s359 : FuncSound Tryz.prog dyn p359 a359 := ⟨Tryz.f359, e359, Tryz.func359, by kernel_rfl, c359⟩
theorem s360 : FuncSound Tryz.prog dyn p360 a360 := ⟨Tryz.f360, e360, Tryz.func360, by kernel_rfl, c360⟩
theorem s361 : FuncSound Tryz.prog dyn p361 a361 := ⟨Tryz.f361, e361, Tryz.func361, by kernel_rfl, c361⟩
theorem s362 : FuncSound Tryz.prog dyn p362 a362 := ⟨Tryz.f362, e362, Tryz.func362, by kernel_rfl, c362⟩
theorem s364 : FuncSound Tryz.prog dyn p364 a364 := ⟨Tryz.f364, e364, Tryz.func364, by kernel_rfl, c364⟩
theorem s368 : FuncSound Tryz.prog dyn p368 a368 := ⟨Tryz.f368, e368, Tryz.func368, by kernel_rfl, c368⟩
theorem s392 : FuncSound Tryz.prog dyn p392 a392 := ⟨Tryz.f392, e392, Tryz.func392, by kernel_rfl, c392⟩
theorem s397 : FuncSound Tryz.prog dyn p397 a397 := ⟨Tryz.f397, e397, Tryz.func397, by kernel_rfl, c397⟩
theorem s424 : FuncSound Tryz.prog dyn p424 a424 := ⟨Tryz.f424, e424, Tryz.func424, by kernel_rfl, c424⟩
theorem fsok : TrAll (FuncSound Tryz.prog dyn) fs := ⟨tnone, ⟨tnone, ⟨tleaf s3, ⟨tleaf s7, ⟨tleaf s15, ⟨tleaf s31, ⟨tleaf s63, ⟨tleaf s127, trivial, trivial⟩, ⟨tnone, ⟨tleaf s319, trivial, trivial⟩, trivial⟩⟩, ⟨tleaf s95, ⟨tleaf s159, trivial, trivial⟩, trivial⟩⟩, ⟨tnone, ⟨tnone, trivial, ⟨tleaf s207, trivial, trivial⟩⟩, ⟨tnone, ⟨tleaf s175, trivial, trivial⟩, trivial⟩⟩⟩, ⟨tleaf s23, ⟨tleaf s39, ⟨tleaf s71, ⟨tleaf s135, trivial, trivial⟩, ⟨tleaf s199, trivial, trivial⟩⟩, ⟨tnone, ⟨tleaf s167, trivial, trivial⟩, ⟨tnone, ⟨tleaf s359, trivial, trivial⟩, trivial⟩⟩⟩, ⟨tleaf s55, ⟨tnone, ⟨tleaf s151, trivial, trivial⟩, ⟨tleaf s215, trivial, trivial⟩⟩, ⟨tleaf s119, ⟨tleaf s183, trivial, trivial⟩, trivial⟩⟩⟩⟩, ⟨tleaf s11, ⟨tnone, ⟨tleaf s35, ⟨tleaf s67, ⟨tleaf s131, trivial, trivial⟩, ⟨tleaf s195, trivial, trivial⟩⟩, ⟨tnone, trivial, ⟨tnone, ⟨tleaf s355, trivial, trivial⟩, trivial⟩⟩⟩, ⟨tleaf s51, ⟨tleaf s83, ⟨tleaf s147, trivial, trivial⟩, ⟨tleaf s211, trivial, trivial⟩⟩, ⟨tleaf s115, ⟨tleaf s179, trivial, trivial⟩, ⟨tleaf s243, trivial, trivial⟩⟩⟩⟩, ⟨tnone, ⟨tnone, ⟨tleaf s75, ⟨tnone, ⟨tleaf s267, trivial, trivial⟩, trivial⟩, trivial⟩, ⟨tleaf s107, trivial, ⟨tleaf s235, trivial, trivial⟩⟩⟩, ⟨tleaf s59, ⟨tleaf s91, ⟨tleaf s155, trivial, trivial⟩, trivial⟩, ⟨tnone, ⟨tleaf s187, trivial, trivial⟩, trivial⟩⟩⟩⟩⟩, ⟨tnone, ⟨tleaf s9, ⟨tleaf s17, ⟨tleaf s33, ⟨tleaf s65, ⟨tleaf s129, trivial, trivial⟩, ⟨tleaf s193, trivial, trivial⟩⟩, ⟨tleaf s97, ⟨tleaf s161, trivial, trivial⟩, trivial⟩⟩, ⟨tleaf s49, ⟨tleaf s81, ⟨tleaf s145, trivial, trivial⟩, ⟨tleaf s209, trivial, trivial⟩⟩, ⟨tnone, ⟨tnone, ⟨tleaf s305, trivial, trivial⟩, trivial⟩, ⟨tleaf s241, trivial, trivial⟩⟩⟩⟩, ⟨tleaf s25, ⟨tleaf s41, ⟨tleaf s73, trivial, trivial⟩, ⟨tleaf s105, trivial, ⟨tnone, ⟨tleaf s361, trivial, trivial⟩, trivial⟩⟩⟩, ⟨tleaf s57, ⟨tnone, ⟨tleaf s153, ⟨tleaf s281, trivial, trivial⟩, trivial⟩, trivial⟩, ⟨tleaf s121, ⟨tleaf s185, trivial, trivial⟩, trivial⟩⟩⟩⟩, ⟨tleaf s13, ⟨tleaf s21, ⟨tleaf s37, ⟨tnone, ⟨tleaf s133, ⟨tleaf s261, trivial, trivial⟩, trivial⟩, trivial⟩, ⟨tleaf s101, ⟨tleaf s165, trivial, trivial⟩, ⟨tleaf s229, ⟨tleaf s357, trivial, trivial⟩, trivial⟩⟩⟩, ⟨tleaf s53, ⟨tnone, ⟨tleaf s149, trivial, trivial⟩, ⟨tleaf s213, trivial, trivial⟩⟩, ⟨tleaf s117, ⟨tleaf s181, trivial, trivial⟩, trivial⟩⟩⟩, ⟨tleaf s29, ⟨tnone, ⟨tleaf s77, ⟨tnone, trivial, ⟨tleaf s397, trivial, trivial⟩⟩, trivial⟩, ⟨tnone, ⟨tleaf s173, trivial, trivial⟩, trivial⟩⟩, ⟨tleaf s61, ⟨tnone, ⟨tleaf s157, ⟨tleaf s285, trivial, trivial⟩, trivial⟩, trivial⟩, ⟨tleaf s125, ⟨tleaf s189, trivial, trivial⟩, trivial⟩⟩⟩⟩⟩⟩, ⟨tnone, ⟨tleaf s4, ⟨tleaf s8, ⟨tnone, ⟨tleaf s32, ⟨tleaf s64, ⟨tleaf s128, ⟨tleaf s256, trivial, trivial⟩, trivial⟩, ⟨tleaf s192, trivial, trivial⟩⟩, ⟨tleaf s96, ⟨tleaf s160, trivial, trivial⟩, ⟨tleaf s224, ⟨tleaf s352, trivial, trivial⟩, trivial⟩⟩⟩, ⟨tleaf s48, ⟨tleaf s80, ⟨tleaf s144, trivial, trivial⟩, ⟨tleaf s208, trivial, trivial⟩⟩, ⟨tnone, ⟨tleaf s176, trivial, trivial⟩, ⟨tleaf s240, ⟨tleaf s368, trivial, trivial⟩, trivial⟩⟩⟩⟩, ⟨tleaf s24, ⟨tnone, ⟨tleaf s72, ⟨tleaf s136, trivial, ⟨tleaf s392, trivial, trivial⟩⟩, ⟨tleaf s200, trivial, trivial⟩⟩, ⟨tleaf s104, ⟨tnone, trivial, ⟨tleaf s424, trivial, trivial⟩⟩, ⟨tnone, ⟨tleaf s360, trivial, trivial⟩, trivial⟩⟩⟩, ⟨tleaf s56, ⟨tnone, trivial, ⟨tleaf s216, trivial, trivial⟩⟩, ⟨tleaf s120, ⟨tleaf s184, trivial, trivial⟩, trivial⟩⟩⟩⟩, ⟨tleaf s12, ⟨tnone, ⟨tleaf s36, ⟨tnone, ⟨tleaf s132, ⟨tleaf s260, trivial, trivial⟩, trivial⟩, trivial⟩, ⟨tleaf s100, trivial, ⟨tleaf s228, ⟨tleaf s356, trivial, trivial⟩, trivial⟩⟩⟩, ⟨tleaf s52, ⟨tleaf s84, ⟨tleaf s148, trivial, trivial⟩, ⟨tleaf s212, trivial, trivial⟩⟩, ⟨tleaf s116, ⟨tleaf s180, trivial, trivial⟩, ⟨tleaf s244, trivial, trivial⟩⟩⟩⟩, ⟨tnone, ⟨tnone, ⟨tleaf s76, ⟨tnone, ⟨tleaf s268, trivial, trivial⟩, trivial⟩, trivial⟩, ⟨tnone, ⟨tleaf s172, trivial, trivial⟩, ⟨tleaf s236, ⟨tleaf s364, trivial, trivial⟩, trivial⟩⟩⟩, ⟨tleaf s60, ⟨tleaf s92, ⟨tleaf s156, ⟨tleaf s284, trivial, trivial⟩, trivial⟩, trivial⟩, ⟨tleaf s124, ⟨tleaf s188, trivial, trivial⟩, trivial⟩⟩⟩⟩⟩, ⟨tleaf s6, ⟨tleaf s10, ⟨tnone, ⟨tnone, ⟨tleaf s66, ⟨tleaf s130, trivial, trivial⟩, ⟨tleaf s194, trivial, trivial⟩⟩, ⟨tleaf s98, trivial, ⟨tleaf s226, ⟨tleaf s354, trivial, trivial⟩, trivial⟩⟩⟩, ⟨tleaf s50, ⟨tleaf s82, ⟨tleaf s146, trivial, trivial⟩, ⟨tleaf s210, trivial, trivial⟩⟩, ⟨tnone, trivial, ⟨tleaf s242, trivial, trivial⟩⟩⟩⟩, ⟨tleaf s26, ⟨tleaf s42, ⟨tleaf s74, ⟨tnone, ⟨tleaf s266, trivial, trivial⟩, trivial⟩, ⟨tleaf s202, trivial, trivial⟩⟩, ⟨tleaf s106, trivial, ⟨tleaf s234, ⟨tleaf s362, trivial, trivial⟩, trivial⟩⟩⟩, ⟨tleaf s58, ⟨tleaf s90, ⟨tleaf s154, trivial, trivial⟩, ⟨tleaf s218, trivial, trivial⟩⟩, ⟨tnone, ⟨tleaf s186, trivial, trivial⟩, ⟨tleaf s250, trivial, trivial⟩⟩⟩⟩⟩, ⟨tleaf s14, ⟨tleaf s22, ⟨tleaf s38, ⟨tleaf s70, ⟨tleaf s134, trivial, trivial⟩, ⟨tleaf s198, trivial, trivial⟩⟩, ⟨tleaf s102, ⟨tleaf s166, trivial, trivial⟩, ⟨tnone, ⟨tleaf s358, trivial, trivial⟩, trivial⟩⟩⟩, ⟨tleaf s54, ⟨tnone, ⟨tleaf s150, trivial, trivial⟩, ⟨tleaf s214, trivial, trivial⟩⟩, ⟨tleaf s118, ⟨tleaf s182, trivial, trivial⟩, trivial⟩⟩⟩, ⟨tleaf s30, ⟨tnone, ⟨tleaf s78, trivial, ⟨tleaf s206, trivial, trivial⟩⟩, ⟨tnone, ⟨tleaf s174, ⟨tleaf s302, trivial, trivial⟩, trivial⟩, trivial⟩⟩, ⟨tleaf s62, ⟨tleaf s94, ⟨tleaf s158, ⟨tleaf s286, trivial, trivial⟩, trivial⟩, trivial⟩, ⟨tleaf s126, trivial, trivial⟩⟩⟩⟩⟩⟩⟩
theorem mixed : Tryz.prog.follows .mixedOrders = true := by kernel_rfl
theorem x137a : (Tryz.f137.name == "runtime.NumGoroutine") = false := by kernel_rfl
theorem x137b : compDefer Tryz.prog dyn e137 Tryz.f137 = some d137 := by kernel_rfl
theorem x137c : (Tryz.f202.name == "runtime.NumGoroutine") = false := by kernel_rfl
theorem x137d : Tryz.prog.funcs[d137.g]? = some Tryz.f202 := Tryz.func202
theorem x137e : Tryz.prog.funcs[p137.nat - 1]? = some Tryz.f137 := Tryz.func137
theorem h137 : HookSound Tryz.prog p137 (hkDefer 100000 d137 a202) := defer_sound mixed x137e x137a x137b x137d x137c c202
theorem x276a : (Tryz.f276.name == "runtime.NumGoroutine") = false := by kernel_rfl
theorem x276b : Tryz.f276.body.isNone = true := by kernel_rfl
theorem x276c : Extern.findNext Tryz.f276 = none := by kernel_rfl
theorem x276d : Extern.find Tryz.f276 = some Extern.BytealgCount.count := by kernel_rfl
theorem x276e : Tryz.prog.funcs[p276.nat - 1]? = some Tryz.f276 := Tryz.func276
theorem h276 : HookSound Tryz.prog p276 hkCount := count_sound ⟨⟨Tryz.f276, x276e, x276a, x276b, x276c, x276d⟩⟩
theorem x327a : (Tryz.f327.name == "runtime.NumGoroutine") = false := by kernel_rfl
theorem x327b : Tryz.f327.body.isNone = true := by kernel_rfl
theorem x327c : Extern.findNext Tryz.f327 = none := by kernel_rfl
theorem x327d : Extern.find Tryz.f327 = some Extern.BytealgIndexByte.indexByte := by kernel_rfl
theorem x327e : Tryz.prog.funcs[p327.nat - 1]? = some Tryz.f327 := Tryz.func327
theorem h327 : HookSound Tryz.prog p327 hkIndexByte := indexByte_sound ⟨⟨Tryz.f327, x327e, x327a, x327b, x327c, x327d⟩⟩
theorem x303a : (Tryz.f303.name == "runtime.NumGoroutine") = false := by kernel_rfl
theorem x303b : Tryz.f303.body.isNone = true := by kernel_rfl
theorem x303c : Extern.findNext Tryz.f303 = none := by kernel_rfl
theorem x303d : Extern.find Tryz.f303 = some Extern.BytealgIndexByte.indexByte := by kernel_rfl
theorem x303e : Tryz.prog.funcs[p303.nat - 1]? = some Tryz.f303 := Tryz.func303
theorem h303 : HookSound Tryz.prog p303 hkIndexByte := indexByte_sound ⟨⟨Tryz.f303, x303e, x303a, x303b, x303c, x303d⟩⟩
theorem x93a : (Tryz.f93.name == "runtime.NumGoroutine") = false := by kernel_rfl
theorem x93b : Tryz.f93.body.isNone = true := by kernel_rfl
theorem x93c : Extern.findNext Tryz.f93 = none := by kernel_rfl
theorem x93d : Extern.find Tryz.f93 = some Extern.MapsClone.clone := by kernel_rfl
theorem x93e : Tryz.prog.funcs[p93.nat - 1]? = some Tryz.f93 := Tryz.func93
theorem h93 : HookSound Tryz.prog p93 hkClone := clone_sound ⟨⟨Tryz.f93, x93e, x93a, x93b, x93c, x93d⟩⟩
theorem hksok0 : TrAll (HookSound Tryz.prog) hks0 := ⟨tnone, ⟨tnone, ⟨tnone, ⟨tnone, ⟨tnone, trivial, ⟨tnone, trivial, ⟨tnone, ⟨tnone, ⟨tleaf h303, trivial, trivial⟩, trivial⟩, trivial⟩⟩⟩, ⟨tnone, ⟨tnone, ⟨tnone, trivial, ⟨tnone, ⟨tleaf h327, trivial, trivial⟩, trivial⟩⟩, trivial⟩, trivial⟩⟩, trivial⟩, ⟨tnone, ⟨tnone, trivial, ⟨tnone, ⟨tnone, ⟨tnone, ⟨tleaf h137, trivial, trivial⟩, trivial⟩, trivial⟩, trivial⟩⟩, ⟨tnone, trivial, ⟨tnone, trivial, ⟨tnone, ⟨tleaf h93, trivial, trivial⟩, trivial⟩⟩⟩⟩⟩, ⟨tnone, ⟨tnone, trivial, ⟨tnone, ⟨tnone, trivial, ⟨tnone, ⟨tnone, ⟨tnone, ⟨tleaf h276, trivial, trivial⟩, trivial⟩, trivial⟩, trivial⟩⟩, trivial⟩⟩, trivial⟩⟩
theorem sound0 (d : Nat) : CSound Tryz.prog (callF prog0 100000 d) := prog_sound (dyn := dyn) mixed hksok0 fsok d
theorem begunRun : isTrue (callF prog0 100000 60 p4 [] (.mk .e .lf)) = true := by kernel_rfl
theorem x4a : (Tryz.f4.name == "runtime.NumGoroutine") = false := by kernel_rfl
theorem x4b : Tryz.f4.body.isNone = false := by kernel_rfl
theorem x4e : Tryz.prog.funcs[p4.nat - 1]? = some Tryz.f4 := Tryz.func4
theorem x5a : (Tryz.f5.name == "runtime.NumGoroutine") = false := by kernel_rfl
theorem x5b : Tryz.f5.body.isNone = false := by kernel_rfl
theorem x5e : Tryz.prog.funcs[p5.nat - 1]? = some Tryz.f5 := Tryz.func5
theorem h4 : HookSound Tryz.prog p4 hkTrue := true_sound (sound0 60) x4e x4a x4b begunRun
theorem h5 (tab : List (Nat × Nat × Nat)) (ht : RestOk Tryz.prog p5 tab) : HookSound Tryz.prog p5 (hkSmall tab) := small_sound x5e x5a x5b ht
theorem hksok (tab : List (Nat × Nat × Nat)) (ht : RestOk Tryz.prog p5 tab) : TrAll (HookSound Tryz.prog) (hks tab) := ⟨tnone, ⟨tnone, ⟨tnone, ⟨tnone, ⟨tnone, trivial, ⟨tnone, trivial, ⟨tnone, ⟨tnone, ⟨tleaf h303, trivial, trivial⟩, trivial⟩, trivial⟩⟩⟩, ⟨tnone, ⟨tnone, ⟨tnone, trivial, ⟨tnone, ⟨tleaf h327, trivial, trivial⟩, trivial⟩⟩, trivial⟩, trivial⟩⟩, trivial⟩, ⟨tleaf (h5 tab ht), ⟨tnone, trivial, ⟨tnone, ⟨tnone, ⟨tnone, ⟨tleaf h137, trivial, trivial⟩, trivial⟩, trivial⟩, trivial⟩⟩, ⟨tnone, trivial, ⟨tnone, trivial, ⟨tnone, ⟨tleaf h93, trivial, trivial⟩, trivial⟩⟩⟩⟩⟩, ⟨tnone, ⟨tleaf h4, trivial, ⟨tnone, ⟨tnone, trivial, ⟨tnone, ⟨tnone, ⟨tnone, ⟨tleaf h276, trivial, trivial⟩, trivial⟩, trivial⟩, trivial⟩⟩, trivial⟩⟩, trivial⟩⟩
theorem sound (tab : List (Nat × Nat × Nat)) (ht : RestOk Tryz.prog p5 tab) (d : Nat) : CSound Tryz.prog (callF (prog tab) 100000 d) := prog_sound (dyn := dyn) mixed (hksok tab ht) fsok d
-- root 3
end Go.Cg.Law
