/- The evaluator's table of this program is sound. No condition. -/
import Derived.Test.YtmmjgldaaecnpaaGreatDoorSd5
import Derived.Test.YtmmjgldaaecnpaaGreatDoorCk1
import Derived.Test.YtmmjgldaaecnpaaGreatDoorCk2
import Derived.Test.YtmmjgldaaecnpaaGreatDoorCk3
set_option linter.unusedVariables false
set_option linter.unusedSimpArgs false
set_option linter.unusedSectionVars false
namespace Go.Cg.Law
open Go.Proofs
variable [Syms]
theorem s3 : FuncSound Tryz.prog dyn p3 a3 := ⟨Tryz.f3, e3, Tryz.func3, by kernel_rfl, c3⟩
theorem s4 : FuncSound Tryz.prog dyn p4 a4 := ⟨Tryz.f4, e4, Tryz.func4, by kernel_rfl, c4⟩
theorem s6 : FuncSound Tryz.prog dyn p6 a6 := ⟨Tryz.f6, e6, Tryz.func6, by kernel_rfl, c6⟩
theorem s7 : FuncSound Tryz.prog dyn p7 a7 := ⟨Tryz.f7, e7, Tryz.func7, by kernel_rfl, c7⟩
theorem s8 : FuncSound Tryz.prog dyn p8 a8 := ⟨Tryz.f8, e8, Tryz.func8, by kernel_rfl, c8⟩
theorem s9 : FuncSound Tryz.prog dyn p9 a9 := ⟨Tryz.f9, e9, Tryz.func9, by kernel_rfl, c9⟩
theorem s10 : FuncSound Tryz.prog dyn p10 a10 := ⟨Tryz.f10, e10, Tryz.func10, by kernel_rfl, c10⟩
theorem s11 : FuncSound Tryz.prog dyn p11 a11 := ⟨Tryz.f11, e11, Tryz.func11, by kernel_rfl, c11⟩
theorem s12 : FuncSound Tryz.prog dyn p12 a12 := ⟨Tryz.f12, e12, Tryz.func12, by kernel_rfl, c12⟩
theorem s13 : FuncSound Tryz.prog dyn p13 a13 := ⟨Tryz.f13, e13, Tryz.func13, by kernel_rfl, c13⟩
theorem s14 : FuncSound Tryz.prog dyn p14 a14 := ⟨Tryz.f14, e14, Tryz.func14, by kernel_rfl, c14⟩
theorem s15 : FuncSound Tryz.prog dyn p15 a15 := ⟨Tryz.f15, e15, Tryz.func15, by kernel_rfl, c15⟩
theorem s16 : FuncSound Tryz.prog dyn p16 a16 := ⟨Tryz.f16, e16, Tryz.func16, by kernel_rfl, c16⟩
theorem s18 : FuncSound Tryz.prog dyn p18 a18 := ⟨Tryz.f18, e18, Tryz.func18, by kernel_rfl, c18⟩
theorem s22 : FuncSound Tryz.prog dyn p22 a22 := ⟨Tryz.f22, e22, Tryz.func22, by kernel_rfl, c22⟩
theorem s23 : FuncSound Tryz.prog dyn p23 a23 := ⟨Tryz.f23, e23, Tryz.func23, by kernel_rfl, c23⟩
theorem s26 : FuncSound Tryz.prog dyn p26 a26 := ⟨Tryz.f26, e26, Tryz.func26, by kernel_rfl, c26⟩
theorem s27 : FuncSound Tryz.prog dyn p27 a27 := ⟨Tryz.f27, e27, Tryz.func27, by kernel_rfl, c27⟩
theorem s30 : FuncSound Tryz.prog dyn p30 a30 := ⟨Tryz.f30, e30, Tryz.func30, by kernel_rfl, c30⟩
theorem s31 : FuncSound Tryz.prog dyn p31 a31 := ⟨Tryz.f31, e31, Tryz.func31, by kernel_rfl, c31⟩
theorem s32 : FuncSound Tryz.prog dyn p32 a32 := ⟨Tryz.f32, e32, Tryz.func32, by kernel_rfl, c32⟩
theorem s33 : FuncSound Tryz.prog dyn p33 a33 := ⟨Tryz.f33, e33, Tryz.func33, by kernel_rfl, c33⟩
theorem s34 : FuncSound Tryz.prog dyn p34 a34 := ⟨Tryz.f34, e34, Tryz.func34, by kernel_rfl, c34⟩
theorem s36 : FuncSound Tryz.prog dyn p36 a36 := ⟨Tryz.f36, e36, Tryz.func36, by kernel_rfl, c36⟩
theorem s37 : FuncSound Tryz.prog dyn p37 a37 := ⟨Tryz.f37, e37, Tryz.func37, by kernel_rfl, c37⟩
theorem s38 : FuncSound Tryz.prog dyn p38 a38 := ⟨Tryz.f38, e38, Tryz.func38, by kernel_rfl, c38⟩
theorem s39 : FuncSound Tryz.prog dyn p39 a39 := ⟨Tryz.f39, e39, Tryz.func39, by kernel_rfl, c39⟩
theorem s40 : FuncSound Tryz.prog dyn p40 a40 := ⟨Tryz.f40, e40, Tryz.func40, by kernel_rfl, c40⟩
theorem s42 : FuncSound Tryz.prog dyn p42 a42 := ⟨Tryz.f42, e42, Tryz.func42, by kernel_rfl, c42⟩
theorem s43 : FuncSound Tryz.prog dyn p43 a43 := ⟨Tryz.f43, e43, Tryz.func43, by kernel_rfl, c43⟩
theorem s49 : FuncSound Tryz.prog dyn p49 a49 := ⟨Tryz.f49, e49, Tryz.func49, by kernel_rfl, c49⟩
theorem s50 : FuncSound Tryz.prog dyn p50 a50 := ⟨Tryz.f50, e50, Tryz.func50, by kernel_rfl, c50⟩
theorem s51 : FuncSound Tryz.prog dyn p51 a51 := ⟨Tryz.f51, e51, Tryz.func51, by kernel_rfl, c51⟩
theorem s52 : FuncSound Tryz.prog dyn p52 a52 := ⟨Tryz.f52, e52, Tryz.func52, by kernel_rfl, c52⟩
theorem s55 : FuncSound Tryz.prog dyn p55 a55 := ⟨Tryz.f55, e55, Tryz.func55, by kernel_rfl, c55⟩
theorem s56 : FuncSound Tryz.prog dyn p56 a56 := ⟨Tryz.f56, e56, Tryz.func56, by kernel_rfl, c56⟩
theorem s57 : FuncSound Tryz.prog dyn p57 a57 := ⟨Tryz.f57, e57, Tryz.func57, by kernel_rfl, c57⟩
theorem s58 : FuncSound Tryz.prog dyn p58 a58 := ⟨Tryz.f58, e58, Tryz.func58, by kernel_rfl, c58⟩
theorem s59 : FuncSound Tryz.prog dyn p59 a59 := ⟨Tryz.f59, e59, Tryz.func59, by kernel_rfl, c59⟩
theorem s60 : FuncSound Tryz.prog dyn p60 a60 := ⟨Tryz.f60, e60, Tryz.func60, by kernel_rfl, c60⟩
theorem s61 : FuncSound Tryz.prog dyn p61 a61 := ⟨Tryz.f61, e61, Tryz.func61, by kernel_rfl, c61⟩
theorem s62 : FuncSound Tryz.prog dyn p62 a62 := ⟨Tryz.f62, e62, Tryz.func62, by kernel_rfl, c62⟩
theorem s63 : FuncSound Tryz.prog dyn p63 a63 := ⟨Tryz.f63, e63, Tryz.func63, by kernel_rfl, c63⟩
theorem s64 : FuncSound Tryz.prog dyn p64 a64 := ⟨Tryz.f64, e64, Tryz.func64, by kernel_rfl, c64⟩
theorem s65 : FuncSound Tryz.prog dyn p65 a65 := ⟨Tryz.f65, e65, Tryz.func65, by kernel_rfl, c65⟩
theorem s66 : FuncSound Tryz.prog dyn p66 a66 := ⟨Tryz.f66, e66, Tryz.func66, by kernel_rfl, c66⟩
theorem s67 : FuncSound Tryz.prog dyn p67 a67 := ⟨Tryz.f67, e67, Tryz.func67, by kernel_rfl, c67⟩
theorem s68 : FuncSound Tryz.prog dyn p68 a68 := ⟨Tryz.f68, e68, Tryz.func68, by kernel_rfl, c68⟩
theorem s71 : FuncSound Tryz.prog dyn p71 a71 := ⟨Tryz.f71, e71, Tryz.func71, by kernel_rfl, c71⟩
theorem s72 : FuncSound Tryz.prog dyn p72 a72 := ⟨Tryz.f72, e72, Tryz.func72, by kernel_rfl, c72⟩
theorem s75 : FuncSound Tryz.prog dyn p75 a75 := ⟨Tryz.f75, e75, Tryz.func75, by kernel_rfl, c75⟩
theorem s76 : FuncSound Tryz.prog dyn p76 a76 := ⟨Tryz.f76, e76, Tryz.func76, by kernel_rfl, c76⟩
theorem s77 : FuncSound Tryz.prog dyn p77 a77 := ⟨Tryz.f77, e77, Tryz.func77, by kernel_rfl, c77⟩
theorem s78 : FuncSound Tryz.prog dyn p78 a78 := ⟨Tryz.f78, e78, Tryz.func78, by kernel_rfl, c78⟩
theorem s79 : FuncSound Tryz.prog dyn p79 a79 := ⟨Tryz.f79, e79, Tryz.func79, by kernel_rfl, c79⟩
theorem s81 : FuncSound Tryz.prog dyn p81 a81 := ⟨Tryz.f81, e81, Tryz.func81, by kernel_rfl, c81⟩
theorem s83 : FuncSound Tryz.prog dyn p83 a83 := ⟨Tryz.f83, e83, Tryz.func83, by kernel_rfl, c83⟩
theorem s85 : FuncSound Tryz.prog dyn p85 a85 := ⟨Tryz.f85, e85, Tryz.func85, by kernel_rfl, c85⟩
theorem s92 : FuncSound Tryz.prog dyn p92 a92 := ⟨Tryz.f92, e92, Tryz.func92, by kernel_rfl, c92⟩
theorem s95 : FuncSound Tryz.prog dyn p95 a95 := ⟨Tryz.f95, e95, Tryz.func95, by kernel_rfl, c95⟩
theorem s96 : FuncSound Tryz.prog dyn p96 a96 := ⟨Tryz.f96, e96, Tryz.func96, by kernel_rfl, c96⟩
theorem s97 : FuncSound Tryz.prog dyn p97 a97 := ⟨Tryz.f97, e97, Tryz.func97, by kernel_rfl, c97⟩
theorem s98 : FuncSound Tryz.prog dyn p98 a98 := ⟨Tryz.f98, e98, Tryz.func98, by kernel_rfl, c98⟩
theorem s99 : FuncSound Tryz.prog dyn p99 a99 := ⟨Tryz.f99, e99, Tryz.func99, by kernel_rfl, c99⟩
theorem s101 : FuncSound Tryz.prog dyn p101 a101 := ⟨Tryz.f101, e101, Tryz.func101, by kernel_rfl, c101⟩
theorem s102 : FuncSound Tryz.prog dyn p102 a102 := ⟨Tryz.f102, e102, Tryz.func102, by kernel_rfl, c102⟩
theorem s103 : FuncSound Tryz.prog dyn p103 a103 := ⟨Tryz.f103, e103, Tryz.func103, by kernel_rfl, c103⟩
theorem s106 : FuncSound Tryz.prog dyn p106 a106 := ⟨Tryz.f106, e106, Tryz.func106, by kernel_rfl, c106⟩
theorem s107 : FuncSound Tryz.prog dyn p107 a107 := ⟨Tryz.f107, e107, Tryz.func107, by kernel_rfl, c107⟩
theorem s108 : FuncSound Tryz.prog dyn p108 a108 := ⟨Tryz.f108, e108, Tryz.func108, by kernel_rfl, c108⟩
theorem s116 : FuncSound Tryz.prog dyn p116 a116 := ⟨Tryz.f116, e116, Tryz.func116, by kernel_rfl, c116⟩
theorem s117 : FuncSound Tryz.prog dyn p117 a117 := ⟨Tryz.f117, e117, Tryz.func117, by kernel_rfl, c117⟩
theorem s121 : FuncSound Tryz.prog dyn p121 a121 := ⟨Tryz.f121, e121, Tryz.func121, by kernel_rfl, c121⟩
theorem s122 : FuncSound Tryz.prog dyn p122 a122 := ⟨Tryz.f122, e122, Tryz.func122, by kernel_rfl, c122⟩
theorem s125 : FuncSound Tryz.prog dyn p125 a125 := ⟨Tryz.f125, e125, Tryz.func125, by kernel_rfl, c125⟩
theorem s126 : FuncSound Tryz.prog dyn p126 a126 := ⟨Tryz.f126, e126, Tryz.func126, by kernel_rfl, c126⟩
theorem s127 : FuncSound Tryz.prog dyn p127 a127 := ⟨Tryz.f127, e127, Tryz.func127, by kernel_rfl, c127⟩
theorem s128 : FuncSound Tryz.prog dyn p128 a128 := ⟨Tryz.f128, e128, Tryz.func128, by kernel_rfl, c128⟩
theorem s129 : FuncSound Tryz.prog dyn p129 a129 := ⟨Tryz.f129, e129, Tryz.func129, by kernel_rfl, c129⟩
theorem s130 : FuncSound Tryz.prog dyn p130 a130 := ⟨Tryz.f130, e130, Tryz.func130, by kernel_rfl, c130⟩
theorem s131 : FuncSound Tryz.prog dyn p131 a131 := ⟨Tryz.f131, e131, Tryz.func131, by kernel_rfl, c131⟩
theorem s132 : FuncSound Tryz.prog dyn p132 a132 := ⟨Tryz.f132, e132, Tryz.func132, by kernel_rfl, c132⟩
theorem s133 : FuncSound Tryz.prog dyn p133 a133 := ⟨Tryz.f133, e133, Tryz.func133, by kernel_rfl, c133⟩
theorem s136 : FuncSound Tryz.prog dyn p136 a136 := ⟨Tryz.f136, e136, Tryz.func136, by kernel_rfl, c136⟩
theorem s137 : FuncSound Tryz.prog dyn p137 a137 := ⟨Tryz.f137, e137, Tryz.func137, by kernel_rfl, c137⟩
theorem s145 : FuncSound Tryz.prog dyn p145 a145 := ⟨Tryz.f145, e145, Tryz.func145, by kernel_rfl, c145⟩
theorem s148 : FuncSound Tryz.prog dyn p148 a148 := ⟨Tryz.f148, e148, Tryz.func148, by kernel_rfl, c148⟩
theorem s150 : FuncSound Tryz.prog dyn p150 a150 := ⟨Tryz.f150, e150, Tryz.func150, by kernel_rfl, c150⟩
theorem s151 : FuncSound Tryz.prog dyn p151 a151 := ⟨Tryz.f151, e151, Tryz.func151, by kernel_rfl, c151⟩
theorem s152 : FuncSound Tryz.prog dyn p152 a152 := ⟨Tryz.f152, e152, Tryz.func152, by kernel_rfl, c152⟩
theorem s154 : FuncSound Tryz.prog dyn p154 a154 := ⟨Tryz.f154, e154, Tryz.func154, by kernel_rfl, c154⟩
theorem s155 : FuncSound Tryz.prog dyn p155 a155 := ⟨Tryz.f155, e155, Tryz.func155, by kernel_rfl, c155⟩
theorem s156 : FuncSound Tryz.prog dyn p156 a156 := ⟨Tryz.f156, e156, Tryz.func156, by kernel_rfl, c156⟩
theorem s157 : FuncSound Tryz.prog dyn p157 a157 := ⟨Tryz.f157, e157, Tryz.func157, by kernel_rfl, c157⟩
theorem s158 : FuncSound Tryz.prog dyn p158 a158 := ⟨Tryz.f158, e158, Tryz.func158, by kernel_rfl, c158⟩
theorem s159 : FuncSound Tryz.prog dyn p159 a159 := ⟨Tryz.f159, e159, Tryz.func159, by kernel_rfl, c159⟩
theorem s160 : FuncSound Tryz.prog dyn p160 a160 := ⟨Tryz.f160, e160, Tryz.func160, by kernel_rfl, c160⟩
theorem s166 : FuncSound Tryz.prog dyn p166 a166 := ⟨Tryz.f166, e166, Tryz.func166, by kernel_rfl, c166⟩
theorem s167 : FuncSound Tryz.prog dyn p167 a167 := ⟨Tryz.f167, e167, Tryz.func167, by kernel_rfl, c167⟩
theorem s168 : FuncSound Tryz.prog dyn p168 a168 := ⟨Tryz.f168, e168, Tryz.func168, by kernel_rfl, c168⟩
theorem s175 : FuncSound Tryz.prog dyn p175 a175 := ⟨Tryz.f175, e175, Tryz.func175, by kernel_rfl, c175⟩
theorem s176 : FuncSound Tryz.prog dyn p176 a176 := ⟨Tryz.f176, e176, Tryz.func176, by kernel_rfl, c176⟩
theorem s177 : FuncSound Tryz.prog dyn p177 a177 := ⟨Tryz.f177, e177, Tryz.func177, by kernel_rfl, c177⟩
theorem s180 : FuncSound Tryz.prog dyn p180 a180 := ⟨Tryz.f180, e180, Tryz.func180, by kernel_rfl, c180⟩
theorem s181 : FuncSound Tryz.prog dyn p181 a181 := ⟨Tryz.f181, e181, Tryz.func181, by kernel_rfl, c181⟩
theorem s182 : FuncSound Tryz.prog dyn p182 a182 := ⟨Tryz.f182, e182, Tryz.func182, by kernel_rfl, c182⟩
theorem s183 : FuncSound Tryz.prog dyn p183 a183 := ⟨Tryz.f183, e183, Tryz.func183, by kernel_rfl, c183⟩
theorem s184 : FuncSound Tryz.prog dyn p184 a184 := ⟨Tryz.f184, e184, Tryz.func184, by kernel_rfl, c184⟩
theorem s185 : FuncSound Tryz.prog dyn p185 a185 := ⟨Tryz.f185, e185, Tryz.func185, by kernel_rfl, c185⟩
theorem s186 : FuncSound Tryz.prog dyn p186 a186 := ⟨Tryz.f186, e186, Tryz.func186, by kernel_rfl, c186⟩
theorem s187 : FuncSound Tryz.prog dyn p187 a187 := ⟨Tryz.f187, e187, Tryz.func187, by kernel_rfl, c187⟩
theorem s188 : FuncSound Tryz.prog dyn p188 a188 := ⟨Tryz.f188, e188, Tryz.func188, by kernel_rfl, c188⟩
theorem s189 : FuncSound Tryz.prog dyn p189 a189 := ⟨Tryz.f189, e189, Tryz.func189, by kernel_rfl, c189⟩
theorem s190 : FuncSound Tryz.prog dyn p190 a190 := ⟨Tryz.f190, e190, Tryz.func190, by kernel_rfl, c190⟩
theorem s193 : FuncSound Tryz.prog dyn p193 a193 := ⟨Tryz.f193, e193, Tryz.func193, by kernel_rfl, c193⟩
theorem s199 : FuncSound Tryz.prog dyn p199 a199 := ⟨Tryz.f199, e199, Tryz.func199, by kernel_rfl, c199⟩
theorem s200 : FuncSound Tryz.prog dyn p200 a200 := ⟨Tryz.f200, e200, Tryz.func200, by kernel_rfl, c200⟩
theorem s201 : FuncSound Tryz.prog dyn p201 a201 := ⟨Tryz.f201, e201, Tryz.func201, by kernel_rfl, c201⟩
theorem s203 : FuncSound Tryz.prog dyn p203 a203 := ⟨Tryz.f203, e203, Tryz.func203, by kernel_rfl, c203⟩
theorem s209 : FuncSound Tryz.prog dyn p209 a209 := ⟨Tryz.f209, e209, Tryz.func209, by kernel_rfl, c209⟩
theorem s210 : FuncSound Tryz.prog dyn p210 a210 := ⟨Tryz.f210, e210, Tryz.func210, by kernel_rfl, c210⟩
theorem s211 : FuncSound Tryz.prog dyn p211 a211 := ⟨Tryz.f211, e211, Tryz.func211, by kernel_rfl, c211⟩
theorem s212 : FuncSound Tryz.prog dyn p212 a212 := ⟨Tryz.f212, e212, Tryz.func212, by kernel_rfl, c212⟩
theorem s213 : FuncSound Tryz.prog dyn p213 a213 := ⟨Tryz.f213, e213, Tryz.func213, by kernel_rfl, c213⟩
theorem s214 : FuncSound Tryz.prog dyn p214 a214 := ⟨Tryz.f214, e214, Tryz.func214, by kernel_rfl, c214⟩
theorem s215 : FuncSound Tryz.prog dyn p215 a215 := ⟨Tryz.f215, e215, Tryz.func215, by kernel_rfl, c215⟩
theorem s225 : FuncSound Tryz.prog dyn p225 a225 := ⟨Tryz.f225, e225, Tryz.func225, by kernel_rfl, c225⟩
theorem s230 : FuncSound Tryz.prog dyn p230 a230 := ⟨Tryz.f230, e230, Tryz.func230, by kernel_rfl, c230⟩
theorem s235 : FuncSound Tryz.prog dyn p235 a235 := ⟨Tryz.f235, e235, Tryz.func235, by kernel_rfl, c235⟩
theorem s236 : FuncSound Tryz.prog dyn p236 a236 := ⟨Tryz.f236, e236, Tryz.func236, by kernel_rfl, c236⟩
theorem s237 : FuncSound Tryz.prog dyn p237 a237 := ⟨Tryz.f237, e237, Tryz.func237, by kernel_rfl, c237⟩
theorem s262 : FuncSound Tryz.prog dyn p262 a262 := ⟨Tryz.f262, e262, Tryz.func262, by kernel_rfl, c262⟩
theorem s267 : FuncSound Tryz.prog dyn p267 a267 := ⟨Tryz.f267, e267, Tryz.func267, by kernel_rfl, c267⟩
theorem s282 : FuncSound Tryz.prog dyn p282 a282 := ⟨Tryz.f282, e282, Tryz.func282, by kernel_rfl, c282⟩
theorem s306 : FuncSound Tryz.prog dyn p306 a306 := ⟨Tryz.f306, e306, Tryz.func306, by kernel_rfl, c306⟩
theorem s320 : FuncSound Tryz.prog dyn p320 a320 := ⟨Tryz.f320, e320, Tryz.func320, by kernel_rfl, c320⟩
theorem s353 : FuncSound Tryz.prog dyn p353 a353 := ⟨Tryz.f353, e353, Tryz.func353, by kernel_rfl, c353⟩
theorem s355 : FuncSound Tryz.prog dyn p355 a355 := ⟨Tryz.f355, e355, Tryz.func355, by kernel_rfl, c355⟩
theorem s356 : FuncSound Tryz.prog dyn p356 a356 := ⟨Tryz.f356, e356, Tryz.func356, by kernel_rfl, c356⟩
theorem s357 : FuncSound Tryz.prog dyn p357 a357 := ⟨Tryz.f357, e357, Tryz.func357, by kernel_rfl, c357⟩
theorem s358 : FuncSound Tryz.prog dyn p358 a358 := ⟨Tryz.f358, e358, Tryz.func358, by kernel_rfl, c358⟩
theorem s359 : FuncSound Tryz.prog dyn p359 a359 := ⟨Tryz.f359, e359, Tryz.func359, by kernel_rfl, c359⟩
theorem s360 : FuncSound Tryz.prog dyn p360 a360 := ⟨Tryz.f360, e360, Tryz.func360, by kernel_rfl, c360⟩
theorem s362 : FuncSound Tryz.prog dyn p362 a362 := ⟨Tryz.f362, e362, Tryz.func362, by kernel_rfl, c362⟩
theorem s365 : FuncSound Tryz.prog dyn p365 a365 := ⟨Tryz.f365, e365, Tryz.func365, by kernel_rfl, c365⟩
theorem s369 : FuncSound Tryz.prog dyn p369 a369 := ⟨Tryz.f369, e369, Tryz.func369, by kernel_rfl, c369⟩
theorem s393 : FuncSound Tryz.prog dyn p393 a393 := ⟨Tryz.f393, e393, Tryz.func393, by kernel_rfl, c393⟩
theorem s398 : FuncSound Tryz.prog dyn p398 a398 := ⟨Tryz.f398, e398, Tryz.func398, by kernel_rfl, c398⟩
theorem s425 : FuncSound Tryz.prog dyn p425 a425 := ⟨Tryz.f425, e425, Tryz.func425, by kernel_rfl, c425⟩
theorem s149 : FuncSound Tryz.prog dyn p149 a149 := ⟨Tryz.f149, e149, Tryz.func149, by kernel_rfl, c149⟩
theorem fsok : TrAll (FuncSound Tryz.prog dyn) fs := ⟨tnone, ⟨tnone, ⟨tleaf s3, ⟨tleaf s7, ⟨tleaf s15, ⟨tleaf s31, ⟨tleaf s63, ⟨tleaf s127, trivial, trivial⟩, trivial⟩, ⟨tleaf s95, ⟨tleaf s159, trivial, trivial⟩, trivial⟩⟩, ⟨tnone, ⟨tleaf s79, trivial, trivial⟩, ⟨tnone, ⟨tleaf s175, trivial, trivial⟩, trivial⟩⟩⟩, ⟨tleaf s23, ⟨tleaf s39, ⟨tleaf s71, trivial, ⟨tleaf s199, trivial, trivial⟩⟩, ⟨tleaf s103, ⟨tleaf s167, trivial, trivial⟩, ⟨tnone, ⟨tleaf s359, trivial, trivial⟩, trivial⟩⟩⟩, ⟨tleaf s55, ⟨tnone, ⟨tleaf s151, trivial, trivial⟩, ⟨tleaf s215, trivial, trivial⟩⟩, ⟨tnone, ⟨tleaf s183, trivial, trivial⟩, trivial⟩⟩⟩⟩, ⟨tleaf s11, ⟨tnone, ⟨tnone, ⟨tleaf s67, ⟨tleaf s131, trivial, trivial⟩, trivial⟩, ⟨tleaf s99, trivial, ⟨tnone, ⟨tleaf s355, trivial, trivial⟩, trivial⟩⟩⟩, ⟨tleaf s51, ⟨tleaf s83, trivial, ⟨tleaf s211, trivial, trivial⟩⟩, trivial⟩⟩, ⟨tleaf s27, ⟨tleaf s43, ⟨tleaf s75, ⟨tnone, ⟨tleaf s267, trivial, trivial⟩, trivial⟩, ⟨tleaf s203, trivial, trivial⟩⟩, ⟨tleaf s107, trivial, ⟨tleaf s235, trivial, trivial⟩⟩⟩, ⟨tleaf s59, ⟨tnone, ⟨tleaf s155, trivial, trivial⟩, trivial⟩, ⟨tnone, ⟨tleaf s187, trivial, trivial⟩, trivial⟩⟩⟩⟩⟩, ⟨tnone, ⟨tleaf s9, ⟨tnone, ⟨tleaf s33, ⟨tleaf s65, ⟨tleaf s129, trivial, trivial⟩, ⟨tleaf s193, trivial, trivial⟩⟩, ⟨tleaf s97, trivial, ⟨tleaf s225, ⟨tleaf s353, trivial, trivial⟩, trivial⟩⟩⟩, ⟨tleaf s49, ⟨tleaf s81, ⟨tleaf s145, trivial, trivial⟩, ⟨tleaf s209, trivial, trivial⟩⟩, ⟨tnone, ⟨tleaf s177, trivial, trivial⟩, ⟨tnone, ⟨tleaf s369, trivial, trivial⟩, trivial⟩⟩⟩⟩, ⟨tnone, ⟨tnone, ⟨tnone, ⟨tleaf s137, trivial, ⟨tleaf s393, trivial, trivial⟩⟩, ⟨tleaf s201, trivial, trivial⟩⟩, ⟨tnone, ⟨tnone, trivial, ⟨tleaf s425, trivial, trivial⟩⟩, trivial⟩⟩, ⟨tleaf s57, trivial, ⟨tleaf s121, ⟨tleaf s185, trivial, trivial⟩, trivial⟩⟩⟩⟩, ⟨tleaf s13, ⟨tnone, ⟨tleaf s37, ⟨tnone, ⟨tleaf s133, trivial, trivial⟩, trivial⟩, ⟨tleaf s101, trivial, ⟨tnone, ⟨tleaf s357, trivial, trivial⟩, trivial⟩⟩⟩, ⟨tnone, ⟨tleaf s85, trivial, ⟨tleaf s213, trivial, trivial⟩⟩, ⟨tleaf s117, ⟨tleaf s181, trivial, trivial⟩, trivial⟩⟩⟩, ⟨tnone, ⟨tnone, ⟨tleaf s77, trivial, trivial⟩, ⟨tnone, trivial, ⟨tleaf s237, ⟨tleaf s365, trivial, trivial⟩, trivial⟩⟩⟩, ⟨tleaf s61, ⟨tnone, ⟨tleaf s157, trivial, trivial⟩, trivial⟩, ⟨tleaf s125, ⟨tleaf s189, trivial, trivial⟩, trivial⟩⟩⟩⟩⟩⟩, ⟨tnone, ⟨tleaf s4, ⟨tleaf s8, ⟨tleaf s16, ⟨tleaf s32, ⟨tleaf s64, ⟨tleaf s128, trivial, trivial⟩, ⟨tnone, ⟨tleaf s320, trivial, trivial⟩, trivial⟩⟩, ⟨tleaf s96, ⟨tleaf s160, trivial, trivial⟩, trivial⟩⟩, ⟨tnone, trivial, ⟨tnone, ⟨tleaf s176, trivial, trivial⟩, trivial⟩⟩⟩, ⟨tnone, ⟨tleaf s40, ⟨tleaf s72, ⟨tleaf s136, trivial, trivial⟩, ⟨tleaf s200, trivial, trivial⟩⟩, ⟨tnone, ⟨tleaf s168, trivial, trivial⟩, ⟨tnone, ⟨tleaf s360, trivial, trivial⟩, trivial⟩⟩⟩, ⟨tleaf s56, ⟨tnone, ⟨tleaf s152, trivial, trivial⟩, trivial⟩, ⟨tnone, ⟨tleaf s184, trivial, trivial⟩, trivial⟩⟩⟩⟩, ⟨tleaf s12, ⟨tnone, ⟨tleaf s36, ⟨tleaf s68, ⟨tleaf s132, trivial, trivial⟩, trivial⟩, ⟨tnone, trivial, ⟨tnone, ⟨tleaf s356, trivial, trivial⟩, trivial⟩⟩⟩, ⟨tleaf s52, ⟨tnone, ⟨tleaf s148, trivial, trivial⟩, ⟨tleaf s212, trivial, trivial⟩⟩, ⟨tleaf s116, ⟨tleaf s180, trivial, trivial⟩, trivial⟩⟩⟩, ⟨tnone, ⟨tnone, ⟨tleaf s76, trivial, trivial⟩, ⟨tleaf s108, trivial, ⟨tleaf s236, trivial, trivial⟩⟩⟩, ⟨tleaf s60, ⟨tleaf s92, ⟨tleaf s156, trivial, trivial⟩, trivial⟩, ⟨tnone, ⟨tleaf s188, trivial, trivial⟩, trivial⟩⟩⟩⟩⟩, ⟨tleaf s6, ⟨tleaf s10, ⟨tleaf s18, ⟨tleaf s34, ⟨tleaf s66, ⟨tleaf s130, trivial, trivial⟩, trivial⟩, ⟨tleaf s98, trivial, trivial⟩⟩, ⟨tleaf s50, ⟨tnone, trivial, ⟨tleaf s210, trivial, trivial⟩⟩, ⟨tnone, ⟨tnone, ⟨tleaf s306, trivial, trivial⟩, trivial⟩, trivial⟩⟩⟩, ⟨tleaf s26, ⟨tleaf s42, trivial, ⟨tleaf s106, trivial, ⟨tnone, ⟨tleaf s362, trivial, trivial⟩, trivial⟩⟩⟩, ⟨tleaf s58, ⟨tnone, ⟨tleaf s154, ⟨tleaf s282, trivial, trivial⟩, trivial⟩, trivial⟩, ⟨tleaf s122, ⟨tleaf s186, trivial, trivial⟩, trivial⟩⟩⟩⟩, ⟨tleaf s14, ⟨tleaf s22, ⟨tleaf s38, ⟨tnone, ⟨tnone, ⟨tleaf s262, trivial, trivial⟩, trivial⟩, trivial⟩, ⟨tleaf s102, ⟨tleaf s166, trivial, trivial⟩, ⟨tleaf s230, ⟨tleaf s358, trivial, trivial⟩, trivial⟩⟩⟩, ⟨tnone, ⟨tnone, ⟨tleaf s150, trivial, trivial⟩, ⟨tleaf s214, trivial, trivial⟩⟩, ⟨tnone, ⟨tleaf s182, trivial, trivial⟩, trivial⟩⟩⟩, ⟨tleaf s30, ⟨tnone, ⟨tleaf s78, ⟨tnone, trivial, ⟨tleaf s398, trivial, trivial⟩⟩, trivial⟩, trivial⟩, ⟨tleaf s62, ⟨tnone, ⟨tleaf s158, trivial, trivial⟩, trivial⟩, ⟨tleaf s126, ⟨tleaf s190, trivial, trivial⟩, trivial⟩⟩⟩⟩⟩⟩⟩
theorem mixed : Tryz.prog.follows .mixedOrders = true := by kernel_rfl
theorem x328a : (Tryz.f328.name == "runtime.NumGoroutine") = false := by kernel_rfl
theorem x328b : Tryz.f328.body.isNone = true := by kernel_rfl
theorem x328c : Extern.findNext Tryz.f328 = none := by kernel_rfl
theorem x328d : Extern.find Tryz.f328 = some Extern.BytealgIndexByte.indexByte := by kernel_rfl
theorem x328e : Tryz.prog.funcs[p328.nat - 1]? = some Tryz.f328 := Tryz.func328
theorem h328 : HookSound Tryz.prog p328 hkIndexByte := indexByte_sound ⟨⟨Tryz.f328, x328e, x328a, x328b, x328c, x328d⟩⟩
theorem x138a : (Tryz.f138.name == "runtime.NumGoroutine") = false := by kernel_rfl
theorem x138b : compDefer Tryz.prog dyn e138 Tryz.f138 = some d138 := by kernel_rfl
theorem x138c : (Tryz.f203.name == "runtime.NumGoroutine") = false := by kernel_rfl
theorem x138d : Tryz.prog.funcs[d138.g]? = some Tryz.f203 := Tryz.func203
theorem x138e : Tryz.prog.funcs[p138.nat - 1]? = some Tryz.f138 := Tryz.func138
theorem h138 : HookSound Tryz.prog p138 (hkDefer 100000 d138 a203) := defer_sound mixed x138e x138a x138b x138d x138c c203
theorem x304a : (Tryz.f304.name == "runtime.NumGoroutine") = false := by kernel_rfl
theorem x304b : Tryz.f304.body.isNone = true := by kernel_rfl
theorem x304c : Extern.findNext Tryz.f304 = none := by kernel_rfl
theorem x304d : Extern.find Tryz.f304 = some Extern.BytealgIndexByte.indexByte := by kernel_rfl
theorem x304e : Tryz.prog.funcs[p304.nat - 1]? = some Tryz.f304 := Tryz.func304
theorem h304 : HookSound Tryz.prog p304 hkIndexByte := indexByte_sound ⟨⟨Tryz.f304, x304e, x304a, x304b, x304c, x304d⟩⟩
theorem h149 : HookSound Tryz.prog p149 hkSum := sum_sound mixed s149 rfl
theorem x94a : (Tryz.f94.name == "runtime.NumGoroutine") = false := by kernel_rfl
theorem x94b : Tryz.f94.body.isNone = true := by kernel_rfl
theorem x94c : Extern.findNext Tryz.f94 = none := by kernel_rfl
theorem x94d : Extern.find Tryz.f94 = some Extern.MapsClone.clone := by kernel_rfl
theorem x94e : Tryz.prog.funcs[p94.nat - 1]? = some Tryz.f94 := Tryz.func94
theorem h94 : HookSound Tryz.prog p94 hkClone := clone_sound ⟨⟨Tryz.f94, x94e, x94a, x94b, x94c, x94d⟩⟩
theorem hksok0 : TrAll (HookSound Tryz.prog) hks0 := ⟨tnone, ⟨tnone, trivial, ⟨tnone, trivial, ⟨tnone, ⟨tnone, trivial, ⟨tnone, ⟨tnone, ⟨tleaf h149, trivial, trivial⟩, trivial⟩, trivial⟩⟩, trivial⟩⟩⟩, ⟨tnone, ⟨tnone, ⟨tnone, ⟨tnone, trivial, ⟨tnone, trivial, ⟨tnone, ⟨tnone, ⟨tleaf h304, trivial, trivial⟩, trivial⟩, trivial⟩⟩⟩, ⟨tnone, ⟨tnone, ⟨tnone, trivial, ⟨tnone, ⟨tleaf h328, trivial, trivial⟩, trivial⟩⟩, trivial⟩, trivial⟩⟩, trivial⟩, ⟨tnone, ⟨tnone, trivial, ⟨tnone, ⟨tnone, ⟨tnone, ⟨tleaf h138, trivial, trivial⟩, trivial⟩, trivial⟩, trivial⟩⟩, ⟨tnone, trivial, ⟨tnone, trivial, ⟨tnone, ⟨tleaf h94, trivial, trivial⟩, trivial⟩⟩⟩⟩⟩⟩
theorem sound0 (d : Nat) : CSound Tryz.prog (callF prog0 100000 d) := prog_sound (dyn := dyn) mixed hksok0 fsok d
theorem begunRun : isTrue (callF prog0 100000 60 p4 [] (.mk .e .lf)) = true := by kernel_rfl
theorem x4a : (Tryz.f4.name == "runtime.NumGoroutine") = false := by kernel_rfl
theorem x4b : Tryz.f4.body.isNone = false := by kernel_rfl
theorem x4e : Tryz.prog.funcs[p4.nat - 1]? = some Tryz.f4 := Tryz.func4
theorem x5a : (Tryz.f5.name == "runtime.NumGoroutine") = false := by kernel_rfl
theorem x5b : Tryz.f5.body.isNone = false := by kernel_rfl
theorem x5e : Tryz.prog.funcs[p5.nat - 1]? = some Tryz.f5 := Tryz.func5
theorem h4 : HookSound Tryz.prog p4 hkTrue := true_sound (sound0 60) x4e x4a x4b begunRun
theorem h5 (tab : List (Nat × Nat × Nat)) (ht : RestOk Tryz.prog p5 tab) : HookSound Tryz.prog p5 (hkSmall tab) := small_sound x5e x5a x5b ht
theorem hksok (tab : List (Nat × Nat × Nat)) (ht : RestOk Tryz.prog p5 tab) : TrAll (HookSound Tryz.prog) (hks tab) := ⟨tnone, ⟨tnone, trivial, ⟨tleaf (h5 tab ht), trivial, ⟨tnone, ⟨tnone, trivial, ⟨tnone, ⟨tnone, ⟨tleaf h149, trivial, trivial⟩, trivial⟩, trivial⟩⟩, trivial⟩⟩⟩, ⟨tnone, ⟨tleaf h4, ⟨tnone, ⟨tnone, trivial, ⟨tnone, trivial, ⟨tnone, ⟨tnone, ⟨tleaf h304, trivial, trivial⟩, trivial⟩, trivial⟩⟩⟩, ⟨tnone, ⟨tnone, ⟨tnone, trivial, ⟨tnone, ⟨tleaf h328, trivial, trivial⟩, trivial⟩⟩, trivial⟩, trivial⟩⟩, trivial⟩, ⟨tnone, ⟨tnone, trivial, ⟨tnone, ⟨tnone, ⟨tnone, ⟨tleaf h138, trivial, trivial⟩, trivial⟩, trivial⟩, trivial⟩⟩, ⟨tnone, trivial, ⟨tnone, trivial, ⟨tnone, ⟨tleaf h94, trivial, trivial⟩, trivial⟩⟩⟩⟩⟩⟩
theorem sound (tab : List (Nat × Nat × Nat)) (ht : RestOk Tryz.prog p5 tab) (d : Nat) : CSound Tryz.prog (callF (prog tab) 100000 d) := prog_sound (dyn := dyn) mixed (hksok tab ht) fsok d
-- root 3
end Go.Cg.Law
