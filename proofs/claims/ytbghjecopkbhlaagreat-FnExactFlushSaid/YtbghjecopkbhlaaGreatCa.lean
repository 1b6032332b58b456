/-
  What is proved: lemmas on the way to the laws of this seat. No condition.
-/
import Derived.Test.YtbghjecopkbhlaaGreatMa
import Derived.Test.YtbghjecopkbhlaaGreatProg
import Derived.KernelRfl
import Derived.Test.YtbghjecopkbhlaaGreatRe
set_option linter.unusedVariables false
set_option linter.unusedSimpArgs false
namespace Go.Wr
open Go.Proofs
def tab : Nat -> FuncId := fun g => [184, 164, 196, 249, 195, 120, 90, 153, 240, 279, 250, 231, 232, 162, 233, 275, 236, 235, 234, 166, 163, 242, 183, 226, 228, 65, 227, 186, 229, 230, 161, 89, 167, 165, 85, 86, 303, 276, 198, 238, 237, 168, 87, 88, 23, 16, 66, 68, 67, 17, 91, 24, 157, 72, 158, 73, 225, 155, 70, 154, 69, 156, 71, 18, 82, 83, 21, 80, 74, 81, 25, 78, 79, 159, 76, 75, 77, 19, 20, 129, 48, 268, 215, 213, 133, 52, 134, 53, 214, 131, 50, 130, 49, 132, 51, 13, 147, 59, 272, 224, 271, 222, 151, 63, 152, 64, 223, 149, 61, 148, 60, 150, 62, 15, 190, 216, 135, 146, 138, 56, 144, 143, 141, 292, 270, 269, 220, 218, 160, 114, 84, 217, 58, 243, 185, 191, 219, 136, 241, 182, 137, 140, 139, 55, 54, 221, 142, 145, 57, 14, 3, 26, 22, 4, 174, 175, 176, 178, 177, 179, 94, 95, 28, 96, 100, 101, 180, 98, 97, 99, 29, 239, 173, 171, 172, 169, 170, 92, 93, 27, 5, 104, 106, 105, 108, 103, 31, 181, 102, 30, 6, 33, 32, 7, 109, 35, 107, 34, 8, 197, 121, 194, 119, 39, 280, 251, 199, 122, 252, 200, 123, 40, 201, 124, 202, 125, 41, 277, 244, 187, 110, 245, 188, 111, 36, 278, 247, 192, 117, 248, 193, 118, 38, 116, 113, 246, 189, 112, 115, 37, 9, 257, 286, 285, 259, 258, 287, 260, 208, 289, 264, 262, 266, 288, 265, 263, 261, 267, 210, 209, 212, 211, 128, 43, 126, 204, 207, 206, 282, 283, 255, 254, 304, 281, 253, 203, 284, 256, 205, 127, 42, 10, 45, 44, 11, 47, 46, 12].getD g 0
theorem Jz : aq Tryz.prog tab AR Tryz.f184 = true := by kernel_rfl
theorem JA : aq Tryz.prog tab AS Tryz.f164 = true := by kernel_rfl
theorem JB : aq Tryz.prog tab AT Tryz.f196 = true := by kernel_rfl
theorem JC : aq Tryz.prog tab AW Tryz.f249 = true := by kernel_rfl
theorem JD : aq Tryz.prog tab AY Tryz.f195 = true := by kernel_rfl
theorem JE : aq Tryz.prog tab A4 Tryz.f120 = true := by kernel_rfl
theorem JF : aq Tryz.prog tab A5 Tryz.f90 = true := by kernel_rfl
theorem JG : aq Tryz.prog tab A6 Tryz.f153 = true := by kernel_rfl
theorem JH : aq Tryz.prog tab A7 Tryz.f240 = true := by kernel_rfl
theorem JI : aq Tryz.prog tab A8 Tryz.f279 = true := by kernel_rfl
theorem JJ : aq Tryz.prog tab tc Tryz.f250 = true := by kernel_rfl
theorem JK : aq Tryz.prog tab Ba Tryz.f231 = true := by kernel_rfl
theorem JL : aq Tryz.prog tab Bc Tryz.f232 = true := by kernel_rfl
theorem JM : aq Tryz.prog tab Be Tryz.f162 = true := by kernel_rfl
theorem JN : aq Tryz.prog tab Bf Tryz.f233 = true := by kernel_rfl
theorem JO : aq Tryz.prog tab CR Tryz.f275 = true := by kernel_rfl
theorem JP : aq Tryz.prog tab CS Tryz.f236 = true := by kernel_rfl
theorem JQ : aq Tryz.prog tab CU Tryz.f235 = true := by kernel_rfl
theorem JR : aq Tryz.prog tab Bh Tryz.f166 = true := by kernel_rfl
theorem JS : aq Tryz.prog tab Bi Tryz.f163 = true := by kernel_rfl
theorem JT : aq Tryz.prog tab Bj Tryz.f242 = true := by kernel_rfl
theorem JU : aq Tryz.prog tab Bk Tryz.f183 = true := by kernel_rfl
theorem JV : aq Tryz.prog tab Bm Tryz.f226 = true := by kernel_rfl
theorem JW : aq Tryz.prog tab th Tryz.f228 = true := by kernel_rfl
theorem JX : aq Tryz.prog tab Bo Tryz.f65 = true := by kernel_rfl
theorem JY : aq Tryz.prog tab pJ Tryz.f227 = true := by kernel_rfl
theorem JZ : aq Tryz.prog tab Bp Tryz.f186 = true := by kernel_rfl
theorem J4 : aq Tryz.prog tab Br Tryz.f229 = true := by kernel_rfl
theorem J5 : aq Tryz.prog tab Bt Tryz.f230 = true := by kernel_rfl
theorem J6 : aq Tryz.prog tab Bv Tryz.f161 = true := by kernel_rfl
theorem J7 : aq Tryz.prog tab Bx Tryz.f89 = true := by kernel_rfl
theorem J8 : aq Tryz.prog tab By Tryz.f167 = true := by kernel_rfl
theorem J9 : aq Tryz.prog tab BA Tryz.f165 = true := by kernel_rfl
theorem Ka : aq Tryz.prog tab tq Tryz.f85 = true := by kernel_rfl
theorem CX : aq Tryz.prog tab tA Tryz.f198 = true := by kernel_rfl
theorem CZ : aq Tryz.prog tab tD Tryz.f237 = true := by kernel_rfl
theorem C7 : aq Tryz.prog tab tJ Tryz.f66 = true := by kernel_rfl
theorem C8 : aq Tryz.prog tab tK Tryz.f68 = true := by kernel_rfl
theorem C9 : aq Tryz.prog tab tM Tryz.f67 = true := by kernel_rfl
theorem Da : aq Tryz.prog tab tO Tryz.f17 = true := by kernel_rfl
theorem Db : aq Tryz.prog tab tP Tryz.f91 = true := by kernel_rfl
theorem Dc : aq Tryz.prog tab tR Tryz.f24 = true := by kernel_rfl
theorem Dd : aq Tryz.prog tab tS Tryz.f157 = true := by kernel_rfl
theorem De : aq Tryz.prog tab tT Tryz.f72 = true := by kernel_rfl
theorem Df : aq Tryz.prog tab tU Tryz.f158 = true := by kernel_rfl
theorem Dg : aq Tryz.prog tab tW Tryz.f73 = true := by kernel_rfl
theorem Dh : aq Tryz.prog tab tY Tryz.f225 = true := by kernel_rfl
theorem Di : aq Tryz.prog tab ua Tryz.f155 = true := by kernel_rfl
theorem Dj : aq Tryz.prog tab uc Tryz.f70 = true := by kernel_rfl
theorem Dk : aq Tryz.prog tab ue Tryz.f154 = true := by kernel_rfl
theorem Dl : aq Tryz.prog tab ug Tryz.f69 = true := by kernel_rfl
theorem Dm : aq Tryz.prog tab ui Tryz.f156 = true := by kernel_rfl
theorem Dn : aq Tryz.prog tab uk Tryz.f71 = true := by kernel_rfl
theorem Dp : aq Tryz.prog tab um Tryz.f18 = true := by kernel_rfl
theorem Dq : aq Tryz.prog tab uo Tryz.f82 = true := by kernel_rfl
theorem Dr : aq Tryz.prog tab uq Tryz.f83 = true := by kernel_rfl
theorem Dt : aq Tryz.prog tab uw Tryz.f80 = true := by kernel_rfl
theorem Du : aq Tryz.prog tab ux Tryz.f74 = true := by kernel_rfl
theorem Dv : aq Tryz.prog tab uz Tryz.f81 = true := by kernel_rfl
theorem Dw : aq Tryz.prog tab uA Tryz.f25 = true := by kernel_rfl
theorem Dx : aq Tryz.prog tab uB Tryz.f78 = true := by kernel_rfl
theorem Dy : aq Tryz.prog tab uC Tryz.f79 = true := by kernel_rfl
theorem Dz : aq Tryz.prog tab uE Tryz.f159 = true := by kernel_rfl
theorem DA : aq Tryz.prog tab uG Tryz.f76 = true := by kernel_rfl
theorem DB : aq Tryz.prog tab uI Tryz.f75 = true := by kernel_rfl
theorem DC : aq Tryz.prog tab uK Tryz.f77 = true := by kernel_rfl
theorem DD : aq Tryz.prog tab uM Tryz.f19 = true := by kernel_rfl
theorem DF : aq Tryz.prog tab uO Tryz.f129 = true := by kernel_rfl
theorem DG : aq Tryz.prog tab uP Tryz.f48 = true := by kernel_rfl
theorem DH : aq Tryz.prog tab uR Tryz.f268 = true := by kernel_rfl
theorem DI : aq Tryz.prog tab uT Tryz.f215 = true := by kernel_rfl
theorem DJ : aq Tryz.prog tab uU Tryz.f213 = true := by kernel_rfl
theorem DK : aq Tryz.prog tab uV Tryz.f133 = true := by kernel_rfl
theorem DL : aq Tryz.prog tab uW Tryz.f52 = true := by kernel_rfl
theorem DM : aq Tryz.prog tab uX Tryz.f134 = true := by kernel_rfl
theorem DN : aq Tryz.prog tab uZ Tryz.f53 = true := by kernel_rfl
theorem DO : aq Tryz.prog tab u4 Tryz.f214 = true := by kernel_rfl
theorem DP : aq Tryz.prog tab u6 Tryz.f131 = true := by kernel_rfl
theorem DQ : aq Tryz.prog tab u9 Tryz.f50 = true := by kernel_rfl
theorem DR : aq Tryz.prog tab vb Tryz.f130 = true := by kernel_rfl
theorem DS : aq Tryz.prog tab vd Tryz.f49 = true := by kernel_rfl
theorem DT : aq Tryz.prog tab vf Tryz.f132 = true := by kernel_rfl
theorem DU : aq Tryz.prog tab vh Tryz.f51 = true := by kernel_rfl
theorem DV : aq Tryz.prog tab vj Tryz.f13 = true := by kernel_rfl
theorem DW : aq Tryz.prog tab vk Tryz.f147 = true := by kernel_rfl
theorem DX : aq Tryz.prog tab vl Tryz.f59 = true := by kernel_rfl
theorem DY : aq Tryz.prog tab vn Tryz.f272 = true := by kernel_rfl
theorem DZ : aq Tryz.prog tab vp Tryz.f224 = true := by kernel_rfl
theorem D0 : aq Tryz.prog tab vq Tryz.f271 = true := by kernel_rfl
theorem D1 : aq Tryz.prog tab vu Tryz.f222 = true := by kernel_rfl
theorem D2 : aq Tryz.prog tab vw Tryz.f151 = true := by kernel_rfl
theorem D3 : aq Tryz.prog tab vx Tryz.f63 = true := by kernel_rfl
theorem D4 : aq Tryz.prog tab vy Tryz.f152 = true := by kernel_rfl
theorem D5 : aq Tryz.prog tab vA Tryz.f64 = true := by kernel_rfl
theorem D6 : aq Tryz.prog tab vC Tryz.f223 = true := by kernel_rfl
theorem D7 : aq Tryz.prog tab vE Tryz.f149 = true := by kernel_rfl
theorem D8 : aq Tryz.prog tab vG Tryz.f61 = true := by kernel_rfl
theorem D9 : aq Tryz.prog tab vI Tryz.f148 = true := by kernel_rfl
theorem Ea : aq Tryz.prog tab vK Tryz.f60 = true := by kernel_rfl
theorem Eb : aq Tryz.prog tab vM Tryz.f150 = true := by kernel_rfl
theorem Ec : aq Tryz.prog tab vO Tryz.f62 = true := by kernel_rfl
theorem Ed : aq Tryz.prog tab vQ Tryz.f15 = true := by kernel_rfl
theorem Ee : aq Tryz.prog tab vR Tryz.f190 = true := by kernel_rfl
theorem Ef : aq Tryz.prog tab vS Tryz.f216 = true := by kernel_rfl
theorem Eg : aq Tryz.prog tab vT Tryz.f135 = true := by kernel_rfl
theorem Eh : aq Tryz.prog tab vV Tryz.f146 = true := by kernel_rfl
theorem Ei : aq Tryz.prog tab vW Tryz.f138 = true := by kernel_rfl
theorem Ej : aq Tryz.prog tab vX Tryz.f56 = true := by kernel_rfl
theorem Ek : aq Tryz.prog tab vY Tryz.f144 = true := by kernel_rfl
theorem El : aq Tryz.prog tab vZ Tryz.f143 = true := by kernel_rfl
theorem Em : aq Tryz.prog tab v7 Tryz.f141 = true := by kernel_rfl
theorem En : aq Tryz.prog tab oH Tryz.f292 = true := by kernel_rfl
theorem Eo : aq Tryz.prog tab oI Tryz.f270 = true := by kernel_rfl
theorem Ep : aq Tryz.prog tab v8 Tryz.f269 = true := by kernel_rfl
theorem Er : aq Tryz.prog tab wa Tryz.f220 = true := by kernel_rfl
theorem Es : aq Tryz.prog tab wb Tryz.f218 = true := by kernel_rfl
theorem Et : aq Tryz.prog tab wc Tryz.f160 = true := by kernel_rfl
theorem Eu : aq Tryz.prog tab wg Tryz.f114 = true := by kernel_rfl
theorem Ew : aq Tryz.prog tab wh Tryz.f84 = true := by kernel_rfl
theorem Ey : aq Tryz.prog tab oM Tryz.f217 = true := by kernel_rfl
theorem Ez : aq Tryz.prog tab wj Tryz.f58 = true := by kernel_rfl
theorem EA : aq Tryz.prog tab wk Tryz.f243 = true := by kernel_rfl
theorem EB : aq Tryz.prog tab wm Tryz.f185 = true := by kernel_rfl
theorem EC : aq Tryz.prog tab wq Tryz.f191 = true := by kernel_rfl
theorem ED : aq Tryz.prog tab wu Tryz.f219 = true := by kernel_rfl
theorem EE : aq Tryz.prog tab wx Tryz.f136 = true := by kernel_rfl
theorem EF : aq Tryz.prog tab wz Tryz.f241 = true := by kernel_rfl
theorem EG : aq Tryz.prog tab wB Tryz.f182 = true := by kernel_rfl
theorem EH : aq Tryz.prog tab wD Tryz.f137 = true := by kernel_rfl
theorem EI : aq Tryz.prog tab wF Tryz.f140 = true := by kernel_rfl
theorem EJ : aq Tryz.prog tab wH Tryz.f139 = true := by kernel_rfl
theorem EK : aq Tryz.prog tab wJ Tryz.f55 = true := by kernel_rfl
theorem EQ : aq Tryz.prog tab wQ Tryz.f26 = true := by kernel_rfl
theorem Pj : aq Tryz.prog tab N7 Tryz.f174 = true := by kernel_rfl
theorem Pk : aq Tryz.prog tab N9 Tryz.f175 = true := by kernel_rfl
theorem Pl : aq Tryz.prog tab Oa Tryz.f176 = true := by kernel_rfl
theorem Pm : aq Tryz.prog tab Od Tryz.f178 = true := by kernel_rfl
theorem Pn : aq Tryz.prog tab Of Tryz.f177 = true := by kernel_rfl
theorem Po : aq Tryz.prog tab Oh Tryz.f179 = true := by kernel_rfl
theorem Pp : aq Tryz.prog tab Oj Tryz.f94 = true := by kernel_rfl
theorem Pq : aq Tryz.prog tab Nl Tryz.f95 = true := by kernel_rfl
theorem Pr : aq Tryz.prog tab Nb Tryz.f28 = true := by kernel_rfl
theorem Ps : aq Tryz.prog tab Om Tryz.f96 = true := by kernel_rfl
theorem Pt : aq Tryz.prog tab Oo Tryz.f100 = true := by kernel_rfl
theorem Pu : aq Tryz.prog tab Oq Tryz.f101 = true := by kernel_rfl
theorem Pv : aq Tryz.prog tab Ou Tryz.f180 = true := by kernel_rfl
theorem Pw : aq Tryz.prog tab Ox Tryz.f98 = true := by kernel_rfl
theorem Px : aq Tryz.prog tab Oz Tryz.f97 = true := by kernel_rfl
theorem Py : aq Tryz.prog tab OB Tryz.f99 = true := by kernel_rfl
theorem Pz : aq Tryz.prog tab OD Tryz.f29 = true := by kernel_rfl
theorem PA : aq Tryz.prog tab OE Tryz.f239 = true := by kernel_rfl
theorem PB : aq Tryz.prog tab OG Tryz.f173 = true := by kernel_rfl
theorem PC : aq Tryz.prog tab OH Tryz.f171 = true := by kernel_rfl
theorem PD : aq Tryz.prog tab OJ Tryz.f172 = true := by kernel_rfl
theorem PE : aq Tryz.prog tab OM Tryz.f169 = true := by kernel_rfl
theorem PF : aq Tryz.prog tab OO Tryz.f170 = true := by kernel_rfl
theorem PG : aq Tryz.prog tab OQ Tryz.f92 = true := by kernel_rfl
theorem PH : aq Tryz.prog tab Nq Tryz.f93 = true := by kernel_rfl
theorem PI : aq Tryz.prog tab Nd Tryz.f27 = true := by kernel_rfl
theorem PJ : aq Tryz.prog tab Nr Tryz.f5 = true := by kernel_rfl
theorem QE : aq Tryz.prog tab OU Tryz.f104 = true := by kernel_rfl
theorem QF : aq Tryz.prog tab OV Tryz.f106 = true := by kernel_rfl
theorem QG : aq Tryz.prog tab OX Tryz.f105 = true := by kernel_rfl
theorem QH : aq Tryz.prog tab Pd Tryz.f108 = true := by kernel_rfl
theorem QI : aq Tryz.prog tab Ns Tryz.f103 = true := by kernel_rfl
theorem QJ : aq Tryz.prog tab Nu Tryz.f31 = true := by kernel_rfl
theorem QK : aq Tryz.prog tab OZ Tryz.f181 = true := by kernel_rfl
theorem QL : aq Tryz.prog tab Nv Tryz.f102 = true := by kernel_rfl
theorem QM : aq Tryz.prog tab Nx Tryz.f30 = true := by kernel_rfl
theorem QN : aq Tryz.prog tab Ny Tryz.f6 = true := by kernel_rfl
theorem QO : aq Tryz.prog tab Nz Tryz.f33 = true := by kernel_rfl
theorem QP : aq Tryz.prog tab NA Tryz.f32 = true := by kernel_rfl
theorem QQ : aq Tryz.prog tab NB Tryz.f7 = true := by kernel_rfl
theorem fol : Tryz.prog.follows .mixedOrders = true := by kernel_rfl
end Go.Wr
namespace Go.Wr
open Go.Proofs Go.Sort Go.Shelf
def Co : Ren := ⟨fun | 6 => 234 | 15 => 274 | 14 => 273 | 28 => 301 | 29 => 302 | 20 => 293 | 21 => 294 | 22 => 295 | 23 => 296 | 24 => 297 | 25 => 298 | 26 => 299 | 27 => 300 | 46 => 306 | 47 => 307 | 48 => 308 | 49 => 309 | 50 => 310 | 57 => 312 | n => n, fun | 22 => 52 | 24 => 115 | 25 => 242 | 3 => 3 | 39 => 271 | 0 => 0 | 53 => 295 | 55 => 297 | 4 => 4 | 46 => 288 | 45 => 287 | 50 => 292 | 5 => 5 | 9 => 9 | 66 => 299 | 70 => 303 | 76 => 306 | 77 => 255 | n => n, fun n => n⟩
theorem BE : SlLaysF0.n6 Tryz.prog Co := {
 mixed := by kernel_rfl,
 f6 := ⟨Tryz.f234.name, by decide, Tryz.func234.trans (congrArg some (by kernel_rfl))⟩,
 f14 := ⟨Tryz.f273.name, by decide, Tryz.func273.trans (congrArg some (by kernel_rfl))⟩,
 f15 := Tryz.func274.trans (congrArg some (by kernel_rfl)),
 f20 := ⟨Tryz.f293.name, by decide, Tryz.func293.trans (congrArg some (by kernel_rfl))⟩,
 f21 := ⟨Tryz.f294.name, by decide, Tryz.func294.trans (congrArg some (by kernel_rfl))⟩,
 f22 := ⟨Tryz.f295.name, by decide, Tryz.func295.trans (congrArg some (by kernel_rfl))⟩,
 f23 := ⟨Tryz.f296.name, by decide, Tryz.func296.trans (congrArg some (by kernel_rfl))⟩,
 f24 := ⟨Tryz.f297.name, by decide, Tryz.func297.trans (congrArg some (by kernel_rfl))⟩,
 f25 := ⟨Tryz.f298.name, by decide, Tryz.func298.trans (congrArg some (by kernel_rfl))⟩,
 f26 := ⟨Tryz.f299.name, by decide, Tryz.func299.trans (congrArg some (by kernel_rfl))⟩,
 f27 := ⟨Tryz.f300.name, by decide, Tryz.func300.trans (congrArg some (by kernel_rfl))⟩,
 f28 := Tryz.func301.trans (congrArg some (by kernel_rfl)),
 f29 := Tryz.func302.trans (congrArg some (by kernel_rfl)),
 f46 := ⟨Tryz.f306.name, by decide, Tryz.func306.trans (congrArg some (by kernel_rfl))⟩,
 f47 := Tryz.func307.trans (congrArg some (by kernel_rfl)),
 f48 := Tryz.func308.trans (congrArg some (by kernel_rfl)),
 f49 := ⟨Tryz.f309.name, by decide, Tryz.func309.trans (congrArg some (by kernel_rfl))⟩,
 f50 := ⟨Tryz.f310.name, by decide, Tryz.func310.trans (congrArg some (by kernel_rfl))⟩,
 f57 := ⟨Tryz.f312.name, by decide, Tryz.func312.trans (congrArg some (by kernel_rfl))⟩,
 t0 := Tryz.underlying0,
 a0 := Tryz.isAgg0,
 z0 := Tryz.sizeOf0,
 v0 := Tryz.zeroValue0,
 t3 := Tryz.underlying3,
 a3 := Tryz.isAgg3,
 z3 := Tryz.sizeOf3,
 v3 := Tryz.zeroValue3,
 t4 := Tryz.underlying4,
 a4 := Tryz.isAgg4,
 z4 := Tryz.sizeOf4,
 v4 := Tryz.zeroValue4,
 t5 := Tryz.underlying5,
 a5 := Tryz.isAgg5,
 z5 := Tryz.sizeOf5,
 v5 := Tryz.zeroValue5,
 t9 := Tryz.underlying9,
 a9 := Tryz.isAgg9,
 z9 := Tryz.sizeOf9,
 v9 := Tryz.zeroValue9,
 t22 := Tryz.underlying52,
 a22 := Tryz.isAgg52,
 z22 := Tryz.sizeOf52,
 v22 := Tryz.zeroValue52,
 t25 := Tryz.underlying242,
 a25 := Tryz.isAgg242,
 z25 := Tryz.sizeOf242,
 v25 := Tryz.zeroValue242,
 t39 := Tryz.underlying271,
 a39 := Tryz.isAgg271,
 z39 := Tryz.sizeOf271,
 v39 := Tryz.zeroValue271,
 t45 := Tryz.underlying287,
 a45 := Tryz.isAgg287,
 z45 := Tryz.sizeOf287,
 v45 := Tryz.zeroValue287,
 t46 := Tryz.underlying288,
 a46 := Tryz.isAgg288,
 z46 := Tryz.sizeOf288,
 v46 := Tryz.zeroValue288,
 t50 := Tryz.underlying292,
 a50 := Tryz.isAgg292,
 z50 := Tryz.sizeOf292,
 v50 := Tryz.zeroValue292,
 t53 := Tryz.underlying295,
 a53 := Tryz.isAgg295,
 z53 := Tryz.sizeOf295,
 v53 := Tryz.zeroValue295,
 t55 := Tryz.underlying297,
 a55 := Tryz.isAgg297,
 z55 := Tryz.sizeOf297,
 v55 := Tryz.zeroValue297,
 t66 := Tryz.underlying299,
 a66 := Tryz.isAgg299,
 z66 := Tryz.sizeOf299,
 v66 := Tryz.zeroValue299,
 t70 := Tryz.underlying303,
 a70 := Tryz.isAgg303,
 z70 := Tryz.sizeOf303,
 v70 := Tryz.zeroValue303,
 t76 := Tryz.underlying306,
 a76 := Tryz.isAgg306,
 z76 := Tryz.sizeOf306,
 v76 := Tryz.zeroValue306,
 t77 := Tryz.underlying255,
 a77 := Tryz.isAgg255,
 z77 := Tryz.sizeOf255,
 v77 := Tryz.zeroValue255 }
theorem Z2s (x y : Int) (W : World) : Calls Tryz.prog 236 #[.int .i64 x, .int .i64 y] W fun e w' => e = .returned (.int .i64 (Lib.compareInt x y)) /\ w' = W := by
 go_enter Tryz.func236, Tryz.ntmps236
 go_wp2
 all_goals
  go_ret
  refine ⟨?_, rfl⟩
 ·rw [Lib.compareInt, if_pos (by omega)]; rfl
 ·rw [Lib.compareInt, if_neg (by omega), if_pos (by omega)]; rfl
 ·rw [Lib.compareInt, if_neg (by omega), if_neg (by omega)]; rfl
theorem Z2r (x y : Int × Int) (W : World) : Calls Tryz.prog 235 #[.agg #[.int .i64 x.1, .int .i64 x.2], .agg #[.int .i64 y.1, .int .i64 y.2]] W fun e w' => e = .returned (.int .i64 (Lib.compareInt x.1 y.1)) /\ ∃ q os', w' = grow (W.drewN q) os' := by
 have pw := fun W' => Z2s x.1 y.1 W'
 generalize Lib.compareInt x.1 y.1 = r at pw ⊢
 go_enter Tryz.func235, Tryz.ntmps235
 go_wp2_with (go_at_call 236; refine (pw _).mono ?_; rintro e w' ⟨rfl, rfl⟩)
 go_ret
 exact ⟨rfl, 0, _, by rw [alloc_eq_grow, alloc_eq_grow, grow_grow]; rfl⟩
theorem Kd : dB Tryz.prog tab AJ pI := by
 unfold pI; rw [Zac]
 exact Zjg BE Tryz.isAgg115 Tryz.sizeOf115 rfl (enters_of Tryz.func235 (by kernel_rfl) rfl) Z2r
end Go.Wr

