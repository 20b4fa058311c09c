/-
  NodeNone runs to true in each of eight cases of its two numbers. Part of the proof of the claim: for every input the law returns true.
-/
import Derived.Test.YtdnngcopahmdgaaGreatDoorAlive
noncomputable section
namespace Go.X
open Go.Proofs
def K1 : Known := kn 7 .yes K0
theorem k1_ok (C : Ctx) : KnownOK Tryz.prog C K1 := kn_ok (alive_ok C) (k0_ok C)
theorem k1_unlock : ∀ f, K1 f = some .unlock → f = 125 := kn_unlock (fun h => by cases h) k0_unlock
def y3 : AFun := .mk 3 (.seq (.reg [.st (.box 24 (.t s2)) (some s5), .st (.mov (.c (.s (.bool false)))) (some s6)]) (.seq (.reg [.st (.call 4 [(.c (.s (.int .i64 (.ofNat 2))))]) (some s21), .st (.ext 0 .la) (some s22), .st (.ext 1 (.t s21)) (some s23), .st (.mov (.t s22)) (some s7), .st (.mov (.t s23)) (some s8)]) (.seq (.seq (.reg [.st (.not (.t s8)) (some s25)]) (.cond (.t s25) (.seq (.reg [.st (.mov (.c (.s (.bool false)))) (some s6)]) .ret) .skip)) (.seq (.reg [.st (.mov (.c (.s .nilp))) (some s9)]) (.seq (.reg [.st (.build [(.int .i64 (.ofNat 0)), .nils, (.int .i64 (.ofNat 0)), (.str .nil), (.bool false), (.int .i64 (.ofNat 0)), .nilp, .nilp, .nilp, (.int .i64 (.ofNat 0)), (.int .i64 (.ofNat 0)), (.int .i64 (.ofNat 0)), (.int .i64 (.ofNat 0)), (.int .i64 (.ofNat 0)), (.int .i64 (.ofNat 0)), (.int .i64 (.ofNat 0)), (.int .i64 (.ofNat 0)), .nilp, (.int .i64 (.ofNat 0)), (.bool false), .nilp, .nilp, .nilp, .nilp, .nilp, .nils, .nils] []) none, .st (.box 49 .la) none, .st (.mov .la) (some s10)]) (.seq (.reg [.st (.nilck (.t s7)) (some s30), .st (.fad 0 (.t s30)) (some s31), .st (.ld1 (.t s31)) (some s32), .st (.nilck (.t s7)) (some s34), .st (.fad 1 (.t s34)) (some s35), .st (.ldn 5 (.t s35)) (some s36), .st (.call 5 [(.t s32), (.t s36), (.t s0), (.t s1)]) (some s39), .st (.mov (.t s39)) (some s28), .st (.ext 0 (.t s28)) (some s40), .st (.ext 1 (.t s28)) (some s41), .st (.mov (.t s40)) (some s11), .st (.mov (.t s41)) (some s12)]) (.seq (.reg [.st (.binI .geq (.t s0) (.c (.s (.int .i64 (.ofNat 1))))) none, .st (.mov .la) (some s44), .gd s44 true (.mov (.t s0)) none, .gd s44 true (.binI .leq .la (.c (.s (.int .i64 (.ofNat 2))))) none, .st (.pick (.t s44) .la (.c (.s (.bool false)))) none, .st (.mov .la) (some s48), .gd s48 true (.mov (.t s1)) none, .gd s48 true (.binI .geq .la (.c (.s (.int .i64 (.ofNat 1))))) none, .st (.pick (.t s48) .la (.c (.s (.bool false)))) none, .st (.mov .la) (some s52), .gd s52 true (.mov (.t s1)) none, .gd s52 true (.binI .leq .la (.c (.s (.int .i64 (.ofNat 2147483647))))) none, .st (.pick (.t s52) .la (.c (.s (.bool false)))) none, .st (.mov .la) (some s13)]) (.seq (.reg [.st (.nilck (.t s7)) none, .st (.fad 1 .la) none, .st (.ldn 5 .la) none, .st (.call 5 [(.c (.s .nilp)), .la, (.c (.s (.int .i64 (.ofNat 1)))), (.c (.s (.int .i64 (.ofNat 1))))]) (some s61), .st (.ext 0 .la) (some s62), .st (.ext 1 (.t s61)) (some s63), .st (.mov (.t s62)) none, .st (.mov (.t s63)) (some s15)]) (.seq (.reg [.st (.call 6 [(.t s9)]) (some s66), .st (.ext 0 .la) (some s67), .st (.ext 1 (.t s66)) (some s68), .st (.alloc 60 [(.int .i64 (.ofNat 0)), (.str .nil)]) none, .st (.stn 2 .la (.t s67)) none, .st (.mov (.t s68)) (some s17)]) (.seq (.reg [.st (.call 6 [(.t s10)]) (some s71), .st (.ext 0 .la) (some s72), .st (.ext 1 (.t s71)) (some s73), .st (.alloc 60 [(.int .i64 (.ofNat 0)), (.str .nil)]) none, .st (.stn 2 .la (.t s72)) none, .st (.mov (.t s73)) (some s19)]) (.seq (.reg [.st (.intr .yes []) none, .st (.mov .la) (some s75), .gd s75 true (.mov (.t s12)) none, .gd s75 true (.binI .eql .la (.c (.s (.int .i64 (.ofNat 0))))) (some s77), .gd s75 true (.mov (.t s13)) none, .gd s75 true (.eq .b false (.t s77) .la) none, .st (.pick (.t s75) .la (.c (.s (.bool false)))) none, .st (.mov .la) (some s81), .gd s81 true (.mov (.t s11)) none, .gd s81 true (.eq .p true .la (.c (.s .nilp))) (some s83), .gd s81 true (.mov (.t s13)) none, .gd s81 true (.eq .b false (.t s83) .la) none, .st (.pick (.t s81) .la (.c (.s (.bool false)))) none, .st (.mov .la) (some s87), .gd s87 true (.mov (.t s13)) none, .gd s87 true (.mov .la) (some s89), .gd s89 false (.mov (.t s12)) none, .gd s89 false (.binI .eql .la (.c (.s (.int .i64 (.ofNat 1))))) none, .gd s87 true (.pick (.t s89) (.c (.s (.bool true))) .la) none, .st (.pick (.t s87) .la (.c (.s (.bool false)))) none, .st (.mov .la) (some s94), .gd s94 true (.mov (.t s15)) none, .gd s94 true (.binI .eql .la (.c (.s (.int .i64 (.ofNat 1))))) none, .st (.pick (.t s94) .la (.c (.s (.bool false)))) none, .st (.mov .la) (some s98), .gd s98 true (.mov (.t s9)) (some s99), .gd s98 true (.ldn 4 (.t s5)) none, .gd s98 true (.call 8 [(.t s99), .la]) none, .gd s98 true (.binI .eql .la (.c (.s (.int .i64 (.ofNat 1))))) none, .st (.pick (.t s98) .la (.c (.s (.bool false)))) none, .st (.mov .la) (some s104), .gd s104 true (.mov (.t s10)) (some s105), .gd s104 true (.ldn 4 (.t s5)) none, .gd s104 true (.call 8 [(.t s105), .la]) none, .gd s104 true (.binI .eql .la (.c (.s (.int .i64 (.ofNat 1))))) none, .st (.pick (.t s104) .la (.c (.s (.bool false)))) none, .st (.mov .la) (some s110), .gd s110 true (.mov (.t s17)) none, .gd s110 true (.not .la) none, .st (.pick (.t s110) .la (.c (.s (.bool false)))) none, .st (.mov .la) (some s114), .gd s114 true (.mov (.t s19)) none, .gd s114 true (.not .la) none, .st (.pick (.t s114) .la (.c (.s (.bool false)))) none, .st (.mov .la) (some s118), .gd s118 true (.mov (.t s9)) none, .gd s118 true (.call 9 [.la, (.c (.s (.int .i64 (.ofNat 1))))]) none, .gd s118 true (.lenSlc .la) (some s121), .gd s118 true (.mov (.t s9)) (some s122), .gd s118 true (.build [(.int .i64 (.ofNat 0)), (.int .i64 (.ofNat 0)), (.str .nil)] []) none, .gd s118 true (.call 10 [(.t s122), .la]) none, .gd s118 true (.lenSlc .la) none, .gd s118 true (.binI .add (.t s121) .la) (some s126), .gd s118 true (.mov (.t s9)) none, .gd s118 true (.call 11 [.la]) none, .gd s118 true (.lenSlc .la) none, .gd s118 true (.binI .add (.t s126) .la) (some s130), .gd s118 true (.mov (.t s9)) none, .gd s118 true (.call 12 [.la]) none, .gd s118 true (.binI .add (.t s130) .la) (some s133), .gd s118 true (.mov (.t s9)) none, .gd s118 true (.call 13 [.la]) none, .gd s118 true (.lenSlc .la) none, .gd s118 true (.binI .add (.t s133) .la) (some s137), .gd s118 true (.mov (.t s10)) none, .gd s118 true (.call 9 [.la, (.c (.s (.int .i64 (.ofNat 1))))]) none, .gd s118 true (.lenSlc .la) none, .gd s118 true (.binI .add (.t s137) .la) none, .gd s118 true (.binI .eql .la (.c (.s (.int .i64 (.ofNat 0))))) none, .st (.pick (.t s118) .la (.c (.s (.bool false)))) none, .st (.mov .la) (some s144), .gd s144 true (.mov (.t s9)) none, .gd s144 true (.call 14 [.la]) none, .gd s144 true (.binI .eql .la (.c (.s (.int .u64 (.ofNat 0))))) none, .st (.pick (.t s144) .la (.c (.s (.bool false)))) none, .st (.mov .la) (some s149), .gd s149 true (.mov (.t s9)) none, .gd s149 true (.call 15 [.la]) none, .gd s149 true (.not .la) none, .st (.pick (.t s149) .la (.c (.s (.bool false)))) none, .st (.mov .la) (some s154), .gd s154 true (.mov (.t s9)) none, .gd s154 true (.call 16 [.la]) none, .gd s154 true (.not .la) none, .st (.pick (.t s154) .la (.c (.s (.bool false)))) none, .st (.mov .la) (some s159), .gd s159 true (.mov (.t s9)) none, .gd s159 true (.call 17 [.la]) none, .gd s159 true (.eq .p false .la (.c (.s .nilp))) none, .st (.pick (.t s159) .la (.c (.s (.bool false)))) none, .st (.mov .la) (some s164), .gd s164 true (.mov (.t s9)) none, .gd s164 true (.call 18 [.la]) none, .gd s164 true (.eq .p false .la (.c (.s .nilp))) none, .st (.pick (.t s164) .la (.c (.s (.bool false)))) none, .st (.mov .la) (some s6)]) .ret))))))))))) [.tmp s6]
theorem g3 : cFun Tryz.prog K1 724150489223219411632806854456192752885272350638080 Tryz.f3 = y3 := by kernel_rfl
theorem g4 : cFun Tryz.prog K1 235042043778334293701693530112 Tryz.f4 = c4 := by kernel_rfl
theorem g5 : cFun Tryz.prog K1 294283314500493367296 Tryz.f5 = c5 := by kernel_rfl
theorem g6 : cFun Tryz.prog K1 4048 Tryz.f6 = c6 := by kernel_rfl
theorem g8 : cFun Tryz.prog K1 55341850967987437248 Tryz.f8 = c8 := by kernel_rfl
theorem g9 : cFun Tryz.prog K1 151042556905148672245568 Tryz.f9 = c9 := by kernel_rfl
theorem g10 : cFun Tryz.prog K1 166132828587270246261639884893716480 Tryz.f10 = c10 := by kernel_rfl
theorem g11 : cFun Tryz.prog K1 1000 Tryz.f11 = c11 := by kernel_rfl
theorem g12 : cFun Tryz.prog K1 2024 Tryz.f12 = c12 := by kernel_rfl
theorem g13 : cFun Tryz.prog K1 2113963840 Tryz.f13 = c13 := by kernel_rfl
theorem g14 : cFun Tryz.prog K1 1000 Tryz.f14 = c14 := by kernel_rfl
theorem g15 : cFun Tryz.prog K1 8120 Tryz.f15 = c15 := by kernel_rfl
theorem g16 : cFun Tryz.prog K1 16312 Tryz.f16 = c16 := by kernel_rfl
theorem g17 : cFun Tryz.prog K1 63448 Tryz.f17 = c17 := by kernel_rfl
theorem g18 : cFun Tryz.prog K1 488 Tryz.f18 = c18 := by kernel_rfl
theorem g19 : cFun Tryz.prog K1 15064 Tryz.f19 = c19 := by kernel_rfl
theorem g20 : cFun Tryz.prog K1 63320 Tryz.f20 = c20 := by kernel_rfl
theorem g21 : cFun Tryz.prog K1 24 Tryz.f21 = c21 := by kernel_rfl
theorem g22 : cFun Tryz.prog K1 540149921862889472 Tryz.f22 = c22 := by kernel_rfl
theorem g23 : cFun Tryz.prog K1 7518540160 Tryz.f23 = c23 := by kernel_rfl
theorem g24 : cFun Tryz.prog K1 567902514718333861939944640962560 Tryz.f24 = c24 := by kernel_rfl
theorem g25 : cFun Tryz.prog K1 15232 Tryz.f25 = c25 := by kernel_rfl
theorem g26 : cFun Tryz.prog K1 64944056 Tryz.f26 = c26 := by kernel_rfl
theorem g27 : cFun Tryz.prog K1 6 Tryz.f27 = c27 := by kernel_rfl
theorem g28 : cFun Tryz.prog K1 1008 Tryz.f28 = c28 := by kernel_rfl
theorem g29 : cFun Tryz.prog K1 504 Tryz.f29 = c29 := by kernel_rfl
theorem g30 : cFun Tryz.prog K1 232 Tryz.f30 = c30 := by kernel_rfl
theorem g31 : cFun Tryz.prog K1 248 Tryz.f31 = c31 := by kernel_rfl
theorem g32 : cFun Tryz.prog K1 720 Tryz.f32 = c32 := by kernel_rfl
theorem g33 : cFun Tryz.prog K1 4056 Tryz.f33 = c33 := by kernel_rfl
theorem g38 : cFun Tryz.prog K1 24 Tryz.f38 = c38 := by kernel_rfl
theorem g47 : cFun Tryz.prog K1 124771840 Tryz.f47 = c47 := by kernel_rfl
theorem g65 : cFun Tryz.prog K1 2179161110017976 Tryz.f65 = c65 := by kernel_rfl
theorem g66 : cFun Tryz.prog K1 488 Tryz.f66 = c66 := by kernel_rfl
theorem g67 : cFun Tryz.prog K1 63320 Tryz.f67 = c67 := by kernel_rfl
theorem g68 : cFun Tryz.prog K1 4185024 Tryz.f68 = c68 := by kernel_rfl
theorem g69 : cFun Tryz.prog K1 4157184 Tryz.f69 = c69 := by kernel_rfl
theorem g70 : cFun Tryz.prog K1 488 Tryz.f70 = c70 := by kernel_rfl
theorem g71 : cFun Tryz.prog K1 4292341504 Tryz.f71 = c71 := by kernel_rfl
theorem g72 : cFun Tryz.prog K1 133110241280 Tryz.f72 = c72 := by kernel_rfl
theorem g73 : cFun Tryz.prog K1 4402162104197120 Tryz.f73 = c73 := by kernel_rfl
theorem g74 : cFun Tryz.prog K1 3919093455617503232 Tryz.f74 = c74 := by kernel_rfl
theorem g75 : cFun Tryz.prog K1 232 Tryz.f75 = c75 := by kernel_rfl
theorem g76 : cFun Tryz.prog K1 25639776 Tryz.f76 = c76 := by kernel_rfl
theorem g77 : cFun Tryz.prog K1 2078560 Tryz.f77 = c77 := by kernel_rfl
theorem g79 : cFun Tryz.prog K1 2078560 Tryz.f79 = c79 := by kernel_rfl
theorem g80 : cFun Tryz.prog K1 168729085427114260013771641093550440192 Tryz.f80 = c80 := by kernel_rfl
theorem g81 : cFun Tryz.prog K1 120 Tryz.f81 = c81 := by kernel_rfl
theorem g82 : cFun Tryz.prog K1 29568 Tryz.f82 = c82 := by kernel_rfl
theorem g83 : cFun Tryz.prog K1 16156 Tryz.f83 = c83 := by kernel_rfl
theorem g84 : cFun Tryz.prog K1 16818144 Tryz.f84 = c84 := by kernel_rfl
theorem g85 : cFun Tryz.prog K1 56 Tryz.f85 = c85 := by kernel_rfl
theorem g86 : cFun Tryz.prog K1 56 Tryz.f86 = c86 := by kernel_rfl
theorem g102 : cFun Tryz.prog K1 60864 Tryz.f102 = c102 := by kernel_rfl
theorem g103 : cFun Tryz.prog K1 225664 Tryz.f103 = c103 := by kernel_rfl
theorem g104 : cFun Tryz.prog K1 66973560 Tryz.f104 = c104 := by kernel_rfl
theorem g105 : cFun Tryz.prog K1 4294394752 Tryz.f105 = c105 := by kernel_rfl
theorem g114 : cFun Tryz.prog K1 120 Tryz.f114 = c114 := by kernel_rfl
theorem g115 : cFun Tryz.prog K1 34049879552 Tryz.f115 = c115 := by kernel_rfl
theorem g143 : cFun Tryz.prog K1 214684751616 Tryz.f143 = c143 := by kernel_rfl
theorem g144 : cFun Tryz.prog K1 4160744448 Tryz.f144 = c144 := by kernel_rfl
theorem g145 : cFun Tryz.prog K1 158921170102765157243612495872 Tryz.f145 = c145 := by kernel_rfl
theorem g146 : cFun Tryz.prog K1 2008 Tryz.f146 = c146 := by kernel_rfl
theorem g147 : cFun Tryz.prog K1 129628544 Tryz.f147 = c147 := by kernel_rfl
theorem g149 : cFun Tryz.prog K1 507840 Tryz.f149 = c149 := by kernel_rfl
theorem g150 : cFun Tryz.prog K1 264 Tryz.f150 = c150 := by kernel_rfl
theorem g151 : cFun Tryz.prog K1 63026912 Tryz.f151 = c151 := by kernel_rfl
theorem g152 : cFun Tryz.prog K1 6 Tryz.f152 = c152 := by kernel_rfl
theorem g178 : cFun Tryz.prog K1 32784 Tryz.f178 = c178 := by kernel_rfl
theorem g181 : cFun Tryz.prog K1 34073571712 Tryz.f181 = c181 := by kernel_rfl
theorem g184 : cFun Tryz.prog K1 4079456 Tryz.f184 = c184 := by kernel_rfl
theorem g187 : cFun Tryz.prog K1 9184 Tryz.f187 = c187 := by kernel_rfl
theorem g189 : cFun Tryz.prog K1 2045792 Tryz.f189 = c189 := by kernel_rfl
theorem g191 : cFun Tryz.prog K1 16106094272 Tryz.f191 = c191 := by kernel_rfl
theorem g193 : cFun Tryz.prog K1 488 Tryz.f193 = c193 := by kernel_rfl
theorem g220 : cFun Tryz.prog K1 8587795840 Tryz.f220 = c220 := by kernel_rfl
theorem g271 : cFun Tryz.prog K1 523744 Tryz.f271 = c271 := by kernel_rfl
def tabN : Nat → AFun := (nd 71 (nd 23 (nd 13 (nd 8 (nd 5 (nd 4 (lf 3 y3) (lf 4 c4)) (nd 6 (lf 5 c5) (lf 6 c6))) (nd 10 (nd 9 (lf 8 c8) (lf 9 c9)) (nd 11 (lf 10 c10) (nd 12 (lf 11 c11) (lf 12 c12))))) (nd 18 (nd 15 (nd 14 (lf 13 c13) (lf 14 c14)) (nd 16 (lf 15 c15) (nd 17 (lf 16 c16) (lf 17 c17)))) (nd 20 (nd 19 (lf 18 c18) (lf 19 c19)) (nd 21 (lf 20 c20) (nd 22 (lf 21 c21) (lf 22 c22)))))) (nd 32 (nd 27 (nd 25 (nd 24 (lf 23 c23) (lf 24 c24)) (nd 26 (lf 25 c25) (lf 26 c26))) (nd 29 (nd 28 (lf 27 c27) (lf 28 c28)) (nd 30 (lf 29 c29) (nd 31 (lf 30 c30) (lf 31 c31))))) (nd 66 (nd 38 (nd 33 (lf 32 c32) (lf 33 c33)) (nd 47 (lf 38 c38) (nd 65 (lf 47 c47) (lf 65 c65)))) (nd 68 (nd 67 (lf 66 c66) (lf 67 c67)) (nd 69 (lf 68 c68) (nd 70 (lf 69 c69) (lf 70 c70))))))) (nd 114 (nd 81 (nd 75 (nd 73 (nd 72 (lf 71 c71) (lf 72 c72)) (nd 74 (lf 73 c73) (lf 74 c74))) (nd 77 (nd 76 (lf 75 c75) (lf 76 c76)) (nd 79 (lf 77 c77) (nd 80 (lf 79 c79) (lf 80 c80))))) (nd 86 (nd 83 (nd 82 (lf 81 c81) (lf 82 c82)) (nd 84 (lf 83 c83) (nd 85 (lf 84 c84) (lf 85 c85)))) (nd 103 (nd 102 (lf 86 c86) (lf 102 c102)) (nd 104 (lf 103 c103) (nd 105 (lf 104 c104) (lf 105 c105)))))) (nd 152 (nd 146 (nd 143 (nd 115 (lf 114 c114) (lf 115 c115)) (nd 144 (lf 143 c143) (nd 145 (lf 144 c144) (lf 145 c145)))) (nd 149 (nd 147 (lf 146 c146) (lf 147 c147)) (nd 150 (lf 149 c149) (nd 151 (lf 150 c150) (lf 151 c151))))) (nd 189 (nd 181 (nd 178 (lf 152 c152) (lf 178 c178)) (nd 184 (lf 181 c181) (nd 187 (lf 184 c184) (lf 187 c187)))) (nd 193 (nd 191 (lf 189 c189) (lf 191 c191)) (nd 220 (lf 193 c193) (nd 271 (lf 220 c220) (lf 271 c271))))))))
theorem tabN_ok : RowOK K1 tabN := (nd_ok (nd_ok (nd_ok (nd_ok (nd_ok (nd_ok (lf_ok Tryz.func3 g3) (lf_ok Tryz.func4 g4)) (nd_ok (lf_ok Tryz.func5 g5) (lf_ok Tryz.func6 g6))) (nd_ok (nd_ok (lf_ok Tryz.func8 g8) (lf_ok Tryz.func9 g9)) (nd_ok (lf_ok Tryz.func10 g10) (nd_ok (lf_ok Tryz.func11 g11) (lf_ok Tryz.func12 g12))))) (nd_ok (nd_ok (nd_ok (lf_ok Tryz.func13 g13) (lf_ok Tryz.func14 g14)) (nd_ok (lf_ok Tryz.func15 g15) (nd_ok (lf_ok Tryz.func16 g16) (lf_ok Tryz.func17 g17)))) (nd_ok (nd_ok (lf_ok Tryz.func18 g18) (lf_ok Tryz.func19 g19)) (nd_ok (lf_ok Tryz.func20 g20) (nd_ok (lf_ok Tryz.func21 g21) (lf_ok Tryz.func22 g22)))))) (nd_ok (nd_ok (nd_ok (nd_ok (lf_ok Tryz.func23 g23) (lf_ok Tryz.func24 g24)) (nd_ok (lf_ok Tryz.func25 g25) (lf_ok Tryz.func26 g26))) (nd_ok (nd_ok (lf_ok Tryz.func27 g27) (lf_ok Tryz.func28 g28)) (nd_ok (lf_ok Tryz.func29 g29) (nd_ok (lf_ok Tryz.func30 g30) (lf_ok Tryz.func31 g31))))) (nd_ok (nd_ok (nd_ok (lf_ok Tryz.func32 g32) (lf_ok Tryz.func33 g33)) (nd_ok (lf_ok Tryz.func38 g38) (nd_ok (lf_ok Tryz.func47 g47) (lf_ok Tryz.func65 g65)))) (nd_ok (nd_ok (lf_ok Tryz.func66 g66) (lf_ok Tryz.func67 g67)) (nd_ok (lf_ok Tryz.func68 g68) (nd_ok (lf_ok Tryz.func69 g69) (lf_ok Tryz.func70 g70))))))) (nd_ok (nd_ok (nd_ok (nd_ok (nd_ok (lf_ok Tryz.func71 g71) (lf_ok Tryz.func72 g72)) (nd_ok (lf_ok Tryz.func73 g73) (lf_ok Tryz.func74 g74))) (nd_ok (nd_ok (lf_ok Tryz.func75 g75) (lf_ok Tryz.func76 g76)) (nd_ok (lf_ok Tryz.func77 g77) (nd_ok (lf_ok Tryz.func79 g79) (lf_ok Tryz.func80 g80))))) (nd_ok (nd_ok (nd_ok (lf_ok Tryz.func81 g81) (lf_ok Tryz.func82 g82)) (nd_ok (lf_ok Tryz.func83 g83) (nd_ok (lf_ok Tryz.func84 g84) (lf_ok Tryz.func85 g85)))) (nd_ok (nd_ok (lf_ok Tryz.func86 g86) (lf_ok Tryz.func102 g102)) (nd_ok (lf_ok Tryz.func103 g103) (nd_ok (lf_ok Tryz.func104 g104) (lf_ok Tryz.func105 g105)))))) (nd_ok (nd_ok (nd_ok (nd_ok (lf_ok Tryz.func114 g114) (lf_ok Tryz.func115 g115)) (nd_ok (lf_ok Tryz.func143 g143) (nd_ok (lf_ok Tryz.func144 g144) (lf_ok Tryz.func145 g145)))) (nd_ok (nd_ok (lf_ok Tryz.func146 g146) (lf_ok Tryz.func147 g147)) (nd_ok (lf_ok Tryz.func149 g149) (nd_ok (lf_ok Tryz.func150 g150) (lf_ok Tryz.func151 g151))))) (nd_ok (nd_ok (nd_ok (lf_ok Tryz.func152 g152) (lf_ok Tryz.func178 g178)) (nd_ok (lf_ok Tryz.func181 g181) (nd_ok (lf_ok Tryz.func184 g184) (lf_ok Tryz.func187 g187)))) (nd_ok (nd_ok (lf_ok Tryz.func189 g189) (lf_ok Tryz.func191 g191)) (nd_ok (lf_ok Tryz.func193 g193) (nd_ok (lf_ok Tryz.func220 g220) (lf_ok Tryz.func271 g271))))))))
end Go.X
end

noncomputable section
open Go.RowKit
namespace Go.X
open Go.Proofs
def cArg : AV := .a [.sym (nat_lit 0), .sym (nat_lit 1), .sym (nat_lit 2), .sym (nat_lit 3)]
def low : AV := .s (.lin .i64 (nat_lit 0) ⟨.negSucc (nat_lit 9223372036854775807), .ofNat (nat_lit 0)⟩)
def high : AV := .s (.lin .i64 (nat_lit 0) ⟨.ofNat (nat_lit 3), .ofNat (nat_lit 9223372036854775807)⟩)
def one : AV := .s (.int .i64 (.ofNat (nat_lit 1)))
def two : AV := .s (.int .i64 (.ofNat (nat_lit 2)))
def any : AV := .s (.lin .i64 (nat_lit 1) ⟨.negSucc (nat_lit 9223372036854775807), .ofNat (nat_lit 9223372036854775807)⟩)
def short : AV := .s (.lin .i64 (nat_lit 1) ⟨.negSucc (nat_lit 9223372036854775807), .ofNat (nat_lit 0)⟩)
def long : AV := .s (.lin .i64 (nat_lit 1) ⟨.ofNat (nat_lit 2147483648), .ofNat (nat_lit 9223372036854775807)⟩)
def fit : AV := .s (.lin .i64 (nat_lit 1) ⟨.ofNat (nat_lit 1), .ofNat (nat_lit 2147483647)⟩)
def runN (a b : AV) : Bool := isTrue (callF tabN (runF tabN 100000) (nat_lit 3) [a, b, cArg] emptyHp firstPid)
theorem run1 : runN low any = true := by kernel_rfl
theorem run2 : runN high any = true := by kernel_rfl
theorem run3 : runN one short = true := by kernel_rfl
theorem run4 : runN one long = true := by kernel_rfl
theorem run5 : runN one fit = true := by kernel_rfl
theorem run6 : runN two short = true := by kernel_rfl
theorem run7 : runN two long = true := by kernel_rfl
theorem run8 : runN two fit = true := by kernel_rfl

/-- the arguments, as the executor has them. -/
def ctxN (id life : Int) (x0 x1 x2 x3 : Value) (h0 : x0.oneCell' = true) (h1 : x1.oneCell' = true) (h2 : x2.oneCell' = true) (h3 : x3.oneCell' = true) : Ctx where
  x := fun i => match i with | 0 => id | _ => life
  s := fun _ => []
  v := fun i => match i with | 0 => x0 | 1 => x1 | 2 => x2 | _ => x3
  plain := fun i => by
    match i with
    | 0 => exact h0
    | 1 => exact h1
    | 2 => exact h2
    | _ + 3 => exact h3

theorem nodeNone_calls (id life : Int) (x0 x1 x2 x3 : Value) (h0 : x0.oneCell' = true) (h1 : x1.oneCell' = true) (h2 : x2.oneCell' = true) (h3 : x3.oneCell' = true)
    (hi : -9223372036854775808 ≤ id ∧ id ≤ 9223372036854775807) (hl : -9223372036854775808 ≤ life ∧ life ≤ 9223372036854775807) (w : World) :
    Calls Tryz.prog 3 #[.int .i64 id, .int .i64 life, .agg #[x0, x1, x2, x3]] w fun e w' => e = .returned (.bool true) ∧ Below w.heap.size w w' := by
  let C := ctxN id life x0 x1 x2 x3 h0 h1 h2 h3
  have main : ∀ a b : AV, runN a b = true → AVR C (fun _ => .un) a (.int .i64 id) → AVR C (fun _ => .un) b (.int .i64 life) →
      Calls Tryz.prog 3 #[.int .i64 id, .int .i64 life, .agg #[x0, x1, x2, x3]] w fun e w' => e = .returned (.bool true) ∧ Below w.heap.size w w' := fun a b hr ha hb => by
    obtain ⟨hp, nx, hr⟩ := isTrue_ok hr
    obtain ⟨-, h⟩ := rows_ok (C := C) (k1_ok C) (defer_of k1_unlock) tabN_ok 100000 3 _ emptyHp firstPid _ hp nx hr
    have hc : AVR C (fun _ => .un) cArg (.agg #[x0, x1, x2, x3]) := ⟨[x0, x1, x2, x3], rfl, ⟨rfl, h0, rfl, h1, rfl, h2, rfl, h3, trivial⟩⟩
    refine (h w.heap.size _ w [.int .i64 id, .int .i64 life, .agg #[x0, x1, x2, x3]] (SR.start w) ⟨ha, hb, hc, trivial⟩).mono fun e w' he => ?_
    cases e with
    | returned u =>
      obtain ⟨m', hu, hG⟩ := he
      have hu : u = .bool true := hu
      subst hu
      exact ⟨rfl, hG.below⟩
    | panicked _ => exact he.elim
    | outgrown => exact he.elim
  have lin0 : ∀ lo hi : Int, lo ≤ id → id ≤ hi → AVR C (fun _ => .un) (.s (.lin .i64 0 ⟨lo, hi⟩)) (.int .i64 id) := fun lo hi h1 h2 => ⟨rfl, h1, h2⟩
  have lin1 : ∀ lo hi : Int, lo ≤ life → life ≤ hi → AVR C (fun _ => .un) (.s (.lin .i64 1 ⟨lo, hi⟩)) (.int .i64 life) := fun lo hi h1 h2 => ⟨rfl, h1, h2⟩
  have lifes : ∀ a : AV, AVR C (fun _ => .un) a (.int .i64 id) → runN a short = true → runN a long = true → runN a fit = true →
      Calls Tryz.prog 3 #[.int .i64 id, .int .i64 life, .agg #[x0, x1, x2, x3]] w fun e w' => e = .returned (.bool true) ∧ Below w.heap.size w w' := fun a ha r1 r2 r3 => by
    by_cases g1 : life ≤ 0
    · exact main a short r1 ha (lin1 (-9223372036854775808) 0 hl.1 g1)
    · by_cases g2 : life ≤ 2147483647
      · exact main a fit r3 ha (lin1 1 2147483647 (by omega) g2)
      · exact main a long r2 ha (lin1 2147483648 9223372036854775807 (by omega) hl.2)
  by_cases g1 : id ≤ 0
  · exact main low any run1 (lin0 (-9223372036854775808) 0 hi.1 g1) (lin1 (-9223372036854775808) 9223372036854775807 hl.1 hl.2)
  · by_cases g2 : id ≤ 2
    · rcases (show id = 1 ∨ id = 2 by omega) with rfl | rfl
      · exact lifes one rfl run3 run4 run5
      · exact lifes two rfl run6 run7 run8
    · exact main high any run2 (lin0 3 9223372036854775807 (by omega) hi.2) (lin1 (-9223372036854775808) 9223372036854775807 hl.1 hl.2)
end Go.X
end

