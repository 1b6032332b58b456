/-
  What is proved: lemmas on the way to the laws of this seat. No condition.
-/
import Derived.Test.YtbghjecopkbhlaaGreatMa
import Derived.Test.YtbghjecopkbhlaaGreatProg
import Derived.KernelRfl
import Derived.Test.YtbghjecopkbhlaaGreatRe
set_option linter.unusedVariables false
set_option linter.unusedSimpArgs false
namespace Go.Wr
open Go.Proofs
def tab : Nat -> FuncId := fun g => [184, 164, 196, 249, 195, 120, 90, 153, 240, 279, 250, 231, 232, 162, 233, 275, 236, 235, 234, 166, 163, 242, 183, 226, 228, 65, 227, 186, 229, 230, 161, 89, 167, 165, 85, 86, 303, 276, 198, 238, 237, 168, 87, 88, 23, 16, 66, 68, 67, 17, 91, 24, 157, 72, 158, 73, 225, 155, 70, 154, 69, 156, 71, 18, 82, 83, 21, 80, 74, 81, 25, 78, 79, 159, 76, 75, 77, 19, 20, 129, 48, 268, 215, 213, 133, 52, 134, 53, 214, 131, 50, 130, 49, 132, 51, 13, 147, 59, 272, 224, 271, 222, 151, 63, 152, 64, 223, 149, 61, 148, 60, 150, 62, 15, 190, 216, 135, 146, 138, 56, 144, 143, 141, 292, 270, 269, 220, 218, 160, 114, 84, 217, 58, 243, 185, 191, 219, 136, 241, 182, 137, 140, 139, 55, 54, 221, 142, 145, 57, 14, 3, 26, 22, 4, 174, 175, 176, 178, 177, 179, 94, 95, 28, 96, 100, 101, 180, 98, 97, 99, 29, 239, 173, 171, 172, 169, 170, 92, 93, 27, 5, 104, 106, 105, 108, 103, 31, 181, 102, 30, 6, 33, 32, 7, 109, 35, 107, 34, 8, 197, 121, 194, 119, 39, 280, 251, 199, 122, 252, 200, 123, 40, 201, 124, 202, 125, 41, 277, 244, 187, 110, 245, 188, 111, 36, 278, 247, 192, 117, 248, 193, 118, 38, 116, 113, 246, 189, 112, 115, 37, 9, 257, 286, 285, 259, 258, 287, 260, 208, 289, 264, 262, 266, 288, 265, 263, 261, 267, 210, 209, 212, 211, 128, 43, 126, 204, 207, 206, 282, 283, 255, 254, 304, 281, 253, 203, 284, 256, 205, 127, 42, 10, 45, 44, 11, 47, 46, 12].getD g 0
theorem is_q0 : funIs Tryz.prog tab m_q0 Tryz.f184 = true := by kernel_rfl
theorem is_q1 : funIs Tryz.prog tab m_q1 Tryz.f164 = true := by kernel_rfl
theorem is_q2 : funIs Tryz.prog tab m_q2 Tryz.f196 = true := by kernel_rfl
theorem is_q3 : funIs Tryz.prog tab m_q3 Tryz.f249 = true := by kernel_rfl
theorem is_q4 : funIs Tryz.prog tab m_q4 Tryz.f195 = true := by kernel_rfl
theorem is_q5 : funIs Tryz.prog tab m_q5 Tryz.f120 = true := by kernel_rfl
theorem is_q6 : funIs Tryz.prog tab m_q6 Tryz.f90 = true := by kernel_rfl
theorem is_q7 : funIs Tryz.prog tab m_q7 Tryz.f153 = true := by kernel_rfl
theorem is_q8 : funIs Tryz.prog tab m_q8 Tryz.f240 = true := by kernel_rfl
theorem is_q9 : funIs Tryz.prog tab m_q9 Tryz.f279 = true := by kernel_rfl
theorem is_qa : funIs Tryz.prog tab m_qa Tryz.f250 = true := by kernel_rfl
theorem is_qb : funIs Tryz.prog tab m_qb Tryz.f231 = true := by kernel_rfl
theorem is_qc : funIs Tryz.prog tab m_qc Tryz.f232 = true := by kernel_rfl
theorem is_qd : funIs Tryz.prog tab m_qd Tryz.f162 = true := by kernel_rfl
theorem is_qe : funIs Tryz.prog tab m_qe Tryz.f233 = true := by kernel_rfl
theorem is_qf : funIs Tryz.prog tab m_qf Tryz.f275 = true := by kernel_rfl
theorem is_qg : funIs Tryz.prog tab m_qg Tryz.f236 = true := by kernel_rfl
theorem is_qh : funIs Tryz.prog tab m_qh Tryz.f235 = true := by kernel_rfl
theorem is_qj : funIs Tryz.prog tab m_qj Tryz.f166 = true := by kernel_rfl
theorem is_qk : funIs Tryz.prog tab m_qk Tryz.f163 = true := by kernel_rfl
theorem is_ql : funIs Tryz.prog tab m_ql Tryz.f242 = true := by kernel_rfl
theorem is_qm : funIs Tryz.prog tab m_qm Tryz.f183 = true := by kernel_rfl
theorem is_qn : funIs Tryz.prog tab m_qn Tryz.f226 = true := by kernel_rfl
theorem is_qo : funIs Tryz.prog tab m_qo Tryz.f228 = true := by kernel_rfl
theorem is_qp : funIs Tryz.prog tab m_qp Tryz.f65 = true := by kernel_rfl
theorem is_qq : funIs Tryz.prog tab m_qq Tryz.f227 = true := by kernel_rfl
theorem is_qr : funIs Tryz.prog tab m_qr Tryz.f186 = true := by kernel_rfl
theorem is_qs : funIs Tryz.prog tab m_qs Tryz.f229 = true := by kernel_rfl
theorem is_qt : funIs Tryz.prog tab m_qt Tryz.f230 = true := by kernel_rfl
theorem is_qu : funIs Tryz.prog tab m_qu Tryz.f161 = true := by kernel_rfl
theorem is_qv : funIs Tryz.prog tab m_qv Tryz.f89 = true := by kernel_rfl
theorem is_qw : funIs Tryz.prog tab m_qw Tryz.f167 = true := by kernel_rfl
theorem is_qx : funIs Tryz.prog tab m_qx Tryz.f165 = true := by kernel_rfl
theorem is_qy : funIs Tryz.prog tab m_qy Tryz.f85 = true := by kernel_rfl
theorem is_qz : funIs Tryz.prog tab m_qz Tryz.f86 = true := by kernel_rfl
theorem is_q10 : funIs Tryz.prog tab m_q10 Tryz.f303 = true := by kernel_rfl
theorem is_q11 : funIs Tryz.prog tab m_q11 Tryz.f276 = true := by kernel_rfl
theorem is_q12 : funIs Tryz.prog tab m_q12 Tryz.f198 = true := by kernel_rfl
theorem is_q13 : funIs Tryz.prog tab m_q13 Tryz.f238 = true := by kernel_rfl
theorem is_q14 : funIs Tryz.prog tab m_q14 Tryz.f237 = true := by kernel_rfl
theorem is_q15 : funIs Tryz.prog tab m_q15 Tryz.f168 = true := by kernel_rfl
theorem is_q16 : funIs Tryz.prog tab m_q16 Tryz.f87 = true := by kernel_rfl
theorem is_q17 : funIs Tryz.prog tab m_q17 Tryz.f88 = true := by kernel_rfl
theorem is_q18 : funIs Tryz.prog tab m_q18 Tryz.f23 = true := by kernel_rfl
theorem is_q19 : funIs Tryz.prog tab m_q19 Tryz.f16 = true := by kernel_rfl
theorem is_q1a : funIs Tryz.prog tab m_q1a Tryz.f66 = true := by kernel_rfl
theorem is_q1b : funIs Tryz.prog tab m_q1b Tryz.f68 = true := by kernel_rfl
theorem is_q1c : funIs Tryz.prog tab m_q1c Tryz.f67 = true := by kernel_rfl
theorem is_q1d : funIs Tryz.prog tab m_q1d Tryz.f17 = true := by kernel_rfl
theorem is_q1e : funIs Tryz.prog tab m_q1e Tryz.f91 = true := by kernel_rfl
theorem is_q1f : funIs Tryz.prog tab m_q1f Tryz.f24 = true := by kernel_rfl
theorem is_q1g : funIs Tryz.prog tab m_q1g Tryz.f157 = true := by kernel_rfl
theorem is_q1h : funIs Tryz.prog tab m_q1h Tryz.f72 = true := by kernel_rfl
theorem is_q1i : funIs Tryz.prog tab m_q1i Tryz.f158 = true := by kernel_rfl
theorem is_q1j : funIs Tryz.prog tab m_q1j Tryz.f73 = true := by kernel_rfl
theorem is_q1k : funIs Tryz.prog tab m_q1k Tryz.f225 = true := by kernel_rfl
theorem is_q1l : funIs Tryz.prog tab m_q1l Tryz.f155 = true := by kernel_rfl
theorem is_q1m : funIs Tryz.prog tab m_q1m Tryz.f70 = true := by kernel_rfl
theorem is_q1n : funIs Tryz.prog tab m_q1n Tryz.f154 = true := by kernel_rfl
theorem is_q1o : funIs Tryz.prog tab m_q1o Tryz.f69 = true := by kernel_rfl
theorem is_q1p : funIs Tryz.prog tab m_q1p Tryz.f156 = true := by kernel_rfl
theorem is_q1q : funIs Tryz.prog tab m_q1q Tryz.f71 = true := by kernel_rfl
theorem is_q1r : funIs Tryz.prog tab m_q1r Tryz.f18 = true := by kernel_rfl
theorem is_q1s : funIs Tryz.prog tab m_q1s Tryz.f82 = true := by kernel_rfl
theorem is_q1t : funIs Tryz.prog tab m_q1t Tryz.f83 = true := by kernel_rfl
theorem is_q1u : funIs Tryz.prog tab m_q1u Tryz.f21 = true := by kernel_rfl
theorem is_q1v : funIs Tryz.prog tab m_q1v Tryz.f80 = true := by kernel_rfl
theorem is_q1w : funIs Tryz.prog tab m_q1w Tryz.f74 = true := by kernel_rfl
theorem is_q1x : funIs Tryz.prog tab m_q1x Tryz.f81 = true := by kernel_rfl
theorem is_q1y : funIs Tryz.prog tab m_q1y Tryz.f25 = true := by kernel_rfl
theorem is_q1z : funIs Tryz.prog tab m_q1z Tryz.f78 = true := by kernel_rfl
theorem is_q20 : funIs Tryz.prog tab m_q20 Tryz.f79 = true := by kernel_rfl
theorem is_q21 : funIs Tryz.prog tab m_q21 Tryz.f159 = true := by kernel_rfl
theorem is_q22 : funIs Tryz.prog tab m_q22 Tryz.f76 = true := by kernel_rfl
theorem is_q23 : funIs Tryz.prog tab m_q23 Tryz.f75 = true := by kernel_rfl
theorem is_q24 : funIs Tryz.prog tab m_q24 Tryz.f77 = true := by kernel_rfl
theorem is_q25 : funIs Tryz.prog tab m_q25 Tryz.f19 = true := by kernel_rfl
theorem is_q26 : funIs Tryz.prog tab m_q26 Tryz.f20 = true := by kernel_rfl
theorem is_q27 : funIs Tryz.prog tab m_q27 Tryz.f129 = true := by kernel_rfl
theorem is_q28 : funIs Tryz.prog tab m_q28 Tryz.f48 = true := by kernel_rfl
theorem is_q29 : funIs Tryz.prog tab m_q29 Tryz.f268 = true := by kernel_rfl
theorem is_q2a : funIs Tryz.prog tab m_q2a Tryz.f215 = true := by kernel_rfl
theorem is_q2b : funIs Tryz.prog tab m_q2b Tryz.f213 = true := by kernel_rfl
theorem is_q2c : funIs Tryz.prog tab m_q2c Tryz.f133 = true := by kernel_rfl
theorem is_q2d : funIs Tryz.prog tab m_q2d Tryz.f52 = true := by kernel_rfl
theorem is_q2e : funIs Tryz.prog tab m_q2e Tryz.f134 = true := by kernel_rfl
theorem is_q2f : funIs Tryz.prog tab m_q2f Tryz.f53 = true := by kernel_rfl
theorem is_q2g : funIs Tryz.prog tab m_q2g Tryz.f214 = true := by kernel_rfl
theorem is_q2h : funIs Tryz.prog tab m_q2h Tryz.f131 = true := by kernel_rfl
theorem is_q2i : funIs Tryz.prog tab m_q2i Tryz.f50 = true := by kernel_rfl
theorem is_q2j : funIs Tryz.prog tab m_q2j Tryz.f130 = true := by kernel_rfl
theorem is_q2k : funIs Tryz.prog tab m_q2k Tryz.f49 = true := by kernel_rfl
theorem is_q2l : funIs Tryz.prog tab m_q2l Tryz.f132 = true := by kernel_rfl
theorem is_q2m : funIs Tryz.prog tab m_q2m Tryz.f51 = true := by kernel_rfl
theorem is_q2n : funIs Tryz.prog tab m_q2n Tryz.f13 = true := by kernel_rfl
theorem is_q2o : funIs Tryz.prog tab m_q2o Tryz.f147 = true := by kernel_rfl
theorem is_q2p : funIs Tryz.prog tab m_q2p Tryz.f59 = true := by kernel_rfl
theorem is_q2q : funIs Tryz.prog tab m_q2q Tryz.f272 = true := by kernel_rfl
theorem is_q2r : funIs Tryz.prog tab m_q2r Tryz.f224 = true := by kernel_rfl
theorem is_q2s : funIs Tryz.prog tab m_q2s Tryz.f271 = true := by kernel_rfl
theorem is_q2t : funIs Tryz.prog tab m_q2t Tryz.f222 = true := by kernel_rfl
theorem is_q2u : funIs Tryz.prog tab m_q2u Tryz.f151 = true := by kernel_rfl
theorem is_q2v : funIs Tryz.prog tab m_q2v Tryz.f63 = true := by kernel_rfl
theorem is_q2w : funIs Tryz.prog tab m_q2w Tryz.f152 = true := by kernel_rfl
theorem is_q2x : funIs Tryz.prog tab m_q2x Tryz.f64 = true := by kernel_rfl
theorem is_q2y : funIs Tryz.prog tab m_q2y Tryz.f223 = true := by kernel_rfl
theorem is_q2z : funIs Tryz.prog tab m_q2z Tryz.f149 = true := by kernel_rfl
theorem is_q30 : funIs Tryz.prog tab m_q30 Tryz.f61 = true := by kernel_rfl
theorem is_q31 : funIs Tryz.prog tab m_q31 Tryz.f148 = true := by kernel_rfl
theorem is_q32 : funIs Tryz.prog tab m_q32 Tryz.f60 = true := by kernel_rfl
theorem is_q33 : funIs Tryz.prog tab m_q33 Tryz.f150 = true := by kernel_rfl
theorem is_q34 : funIs Tryz.prog tab m_q34 Tryz.f62 = true := by kernel_rfl
theorem is_q35 : funIs Tryz.prog tab m_q35 Tryz.f15 = true := by kernel_rfl
theorem is_q36 : funIs Tryz.prog tab m_q36 Tryz.f190 = true := by kernel_rfl
theorem is_q37 : funIs Tryz.prog tab m_q37 Tryz.f216 = true := by kernel_rfl
theorem is_q38 : funIs Tryz.prog tab m_q38 Tryz.f135 = true := by kernel_rfl
theorem is_q39 : funIs Tryz.prog tab m_q39 Tryz.f146 = true := by kernel_rfl
theorem is_q3a : funIs Tryz.prog tab m_q3a Tryz.f138 = true := by kernel_rfl
theorem is_q3b : funIs Tryz.prog tab m_q3b Tryz.f56 = true := by kernel_rfl
theorem is_q3c : funIs Tryz.prog tab m_q3c Tryz.f144 = true := by kernel_rfl
theorem is_q3d : funIs Tryz.prog tab m_q3d Tryz.f143 = true := by kernel_rfl
theorem is_q3e : funIs Tryz.prog tab m_q3e Tryz.f141 = true := by kernel_rfl
theorem is_q3f : funIs Tryz.prog tab m_q3f Tryz.f292 = true := by kernel_rfl
theorem is_q3g : funIs Tryz.prog tab m_q3g Tryz.f270 = true := by kernel_rfl
theorem is_q3h : funIs Tryz.prog tab m_q3h Tryz.f269 = true := by kernel_rfl
theorem is_q3i : funIs Tryz.prog tab m_q3i Tryz.f220 = true := by kernel_rfl
theorem is_q3j : funIs Tryz.prog tab m_q3j Tryz.f218 = true := by kernel_rfl
theorem is_q3k : funIs Tryz.prog tab m_q3k Tryz.f160 = true := by kernel_rfl
theorem is_q3l : funIs Tryz.prog tab m_q3l Tryz.f114 = true := by kernel_rfl
theorem is_q3m : funIs Tryz.prog tab m_q3m Tryz.f84 = true := by kernel_rfl
theorem is_q3n : funIs Tryz.prog tab m_q3n Tryz.f217 = true := by kernel_rfl
theorem is_q3o : funIs Tryz.prog tab m_q3o Tryz.f58 = true := by kernel_rfl
theorem is_q3p : funIs Tryz.prog tab m_q3p Tryz.f243 = true := by kernel_rfl
theorem is_q3q : funIs Tryz.prog tab m_q3q Tryz.f185 = true := by kernel_rfl
theorem is_q3r : funIs Tryz.prog tab m_q3r Tryz.f191 = true := by kernel_rfl
theorem is_q3s : funIs Tryz.prog tab m_q3s Tryz.f219 = true := by kernel_rfl
theorem is_q3t : funIs Tryz.prog tab m_q3t Tryz.f136 = true := by kernel_rfl
theorem is_q3u : funIs Tryz.prog tab m_q3u Tryz.f241 = true := by kernel_rfl
theorem is_q3v : funIs Tryz.prog tab m_q3v Tryz.f182 = true := by kernel_rfl
theorem is_q3w : funIs Tryz.prog tab m_q3w Tryz.f137 = true := by kernel_rfl
theorem is_q3x : funIs Tryz.prog tab m_q3x Tryz.f140 = true := by kernel_rfl
theorem is_q3y : funIs Tryz.prog tab m_q3y Tryz.f139 = true := by kernel_rfl
theorem is_q3z : funIs Tryz.prog tab m_q3z Tryz.f55 = true := by kernel_rfl
theorem is_q40 : funIs Tryz.prog tab m_q40 Tryz.f54 = true := by kernel_rfl
theorem is_q41 : funIs Tryz.prog tab m_q41 Tryz.f221 = true := by kernel_rfl
theorem is_q42 : funIs Tryz.prog tab m_q42 Tryz.f142 = true := by kernel_rfl
theorem is_q43 : funIs Tryz.prog tab m_q43 Tryz.f145 = true := by kernel_rfl
theorem is_q44 : funIs Tryz.prog tab m_q44 Tryz.f57 = true := by kernel_rfl
theorem is_q45 : funIs Tryz.prog tab m_q45 Tryz.f14 = true := by kernel_rfl
theorem is_q46 : funIs Tryz.prog tab m_q46 Tryz.f3 = true := by kernel_rfl
theorem is_q47 : funIs Tryz.prog tab m_q47 Tryz.f26 = true := by kernel_rfl
theorem is_q48 : funIs Tryz.prog tab m_q48 Tryz.f22 = true := by kernel_rfl
theorem is_q49 : funIs Tryz.prog tab m_q49 Tryz.f4 = true := by kernel_rfl
theorem fol : Tryz.prog.follows .mixedOrders = true := by kernel_rfl
end Go.Wr
namespace Go.Wr
open Go.Proofs Go.Sort Go.Shelf
def sortRen : Ren := ⟨fun | 6 => 234 | 15 => 274 | 14 => 273 | 28 => 301 | 29 => 302 | 20 => 293 | 21 => 294 | 22 => 295 | 23 => 296 | 24 => 297 | 25 => 298 | 26 => 299 | 27 => 300 | 46 => 306 | 47 => 307 | 48 => 308 | 49 => 309 | 50 => 310 | 57 => 312 | n => n, fun | 22 => 52 | 24 => 115 | 25 => 242 | 3 => 3 | 39 => 271 | 0 => 0 | 53 => 295 | 55 => 297 | 4 => 4 | 46 => 288 | 45 => 287 | 50 => 292 | 5 => 5 | 9 => 9 | 66 => 299 | 70 => 303 | 76 => 306 | 77 => 255 | n => n, fun n => n⟩
theorem sortLaid : SlLaysF0.n6 Tryz.prog sortRen := {
 mixed := by kernel_rfl,
 f6 := ⟨Tryz.f234.name, by decide, Tryz.func234.trans (congrArg some (by kernel_rfl))⟩,
 f14 := ⟨Tryz.f273.name, by decide, Tryz.func273.trans (congrArg some (by kernel_rfl))⟩,
 f15 := Tryz.func274.trans (congrArg some (by kernel_rfl)),
 f20 := ⟨Tryz.f293.name, by decide, Tryz.func293.trans (congrArg some (by kernel_rfl))⟩,
 f21 := ⟨Tryz.f294.name, by decide, Tryz.func294.trans (congrArg some (by kernel_rfl))⟩,
 f22 := ⟨Tryz.f295.name, by decide, Tryz.func295.trans (congrArg some (by kernel_rfl))⟩,
 f23 := ⟨Tryz.f296.name, by decide, Tryz.func296.trans (congrArg some (by kernel_rfl))⟩,
 f24 := ⟨Tryz.f297.name, by decide, Tryz.func297.trans (congrArg some (by kernel_rfl))⟩,
 f25 := ⟨Tryz.f298.name, by decide, Tryz.func298.trans (congrArg some (by kernel_rfl))⟩,
 f26 := ⟨Tryz.f299.name, by decide, Tryz.func299.trans (congrArg some (by kernel_rfl))⟩,
 f27 := ⟨Tryz.f300.name, by decide, Tryz.func300.trans (congrArg some (by kernel_rfl))⟩,
 f28 := Tryz.func301.trans (congrArg some (by kernel_rfl)),
 f29 := Tryz.func302.trans (congrArg some (by kernel_rfl)),
 f46 := ⟨Tryz.f306.name, by decide, Tryz.func306.trans (congrArg some (by kernel_rfl))⟩,
 f47 := Tryz.func307.trans (congrArg some (by kernel_rfl)),
 f48 := Tryz.func308.trans (congrArg some (by kernel_rfl)),
 f49 := ⟨Tryz.f309.name, by decide, Tryz.func309.trans (congrArg some (by kernel_rfl))⟩,
 f50 := ⟨Tryz.f310.name, by decide, Tryz.func310.trans (congrArg some (by kernel_rfl))⟩,
 f57 := ⟨Tryz.f312.name, by decide, Tryz.func312.trans (congrArg some (by kernel_rfl))⟩,
 t0 := Tryz.underlying0,
 a0 := Tryz.isAgg0,
 z0 := Tryz.sizeOf0,
 v0 := Tryz.zeroValue0,
 t3 := Tryz.underlying3,
 a3 := Tryz.isAgg3,
 z3 := Tryz.sizeOf3,
 v3 := Tryz.zeroValue3,
 t4 := Tryz.underlying4,
 a4 := Tryz.isAgg4,
 z4 := Tryz.sizeOf4,
 v4 := Tryz.zeroValue4,
 t5 := Tryz.underlying5,
 a5 := Tryz.isAgg5,
 z5 := Tryz.sizeOf5,
 v5 := Tryz.zeroValue5,
 t9 := Tryz.underlying9,
 a9 := Tryz.isAgg9,
 z9 := Tryz.sizeOf9,
 v9 := Tryz.zeroValue9,
 t22 := Tryz.underlying52,
 a22 := Tryz.isAgg52,
 z22 := Tryz.sizeOf52,
 v22 := Tryz.zeroValue52,
 t25 := Tryz.underlying242,
 a25 := Tryz.isAgg242,
 z25 := Tryz.sizeOf242,
 v25 := Tryz.zeroValue242,
 t39 := Tryz.underlying271,
 a39 := Tryz.isAgg271,
 z39 := Tryz.sizeOf271,
 v39 := Tryz.zeroValue271,
 t45 := Tryz.underlying287,
 a45 := Tryz.isAgg287,
 z45 := Tryz.sizeOf287,
 v45 := Tryz.zeroValue287,
 t46 := Tryz.underlying288,
 a46 := Tryz.isAgg288,
 z46 := Tryz.sizeOf288,
 v46 := Tryz.zeroValue288,
 t50 := Tryz.underlying292,
 a50 := Tryz.isAgg292,
 z50 := Tryz.sizeOf292,
 v50 := Tryz.zeroValue292,
 t53 := Tryz.underlying295,
 a53 := Tryz.isAgg295,
 z53 := Tryz.sizeOf295,
 v53 := Tryz.zeroValue295,
 t55 := Tryz.underlying297,
 a55 := Tryz.isAgg297,
 z55 := Tryz.sizeOf297,
 v55 := Tryz.zeroValue297,
 t66 := Tryz.underlying299,
 a66 := Tryz.isAgg299,
 z66 := Tryz.sizeOf299,
 v66 := Tryz.zeroValue299,
 t70 := Tryz.underlying303,
 a70 := Tryz.isAgg303,
 z70 := Tryz.sizeOf303,
 v70 := Tryz.zeroValue303,
 t76 := Tryz.underlying306,
 a76 := Tryz.isAgg306,
 z76 := Tryz.sizeOf306,
 v76 := Tryz.zeroValue306,
 t77 := Tryz.underlying255,
 a77 := Tryz.isAgg255,
 z77 := Tryz.sizeOf255,
 v77 := Tryz.zeroValue255 }
theorem Z2s (x y : Int) (W : World) : Calls Tryz.prog 236 #[.int .i64 x, .int .i64 y] W fun e w' => e = .returned (.int .i64 (Lib.compareInt x y)) /\ w' = W := by
 go_enter Tryz.func236, Tryz.ntmps236
 go_wp2
 all_goals
  go_ret
  refine ⟨?_, rfl⟩
 ·rw [Lib.compareInt, if_pos (by omega)]; rfl
 ·rw [Lib.compareInt, if_neg (by omega), if_pos (by omega)]; rfl
 ·rw [Lib.compareInt, if_neg (by omega), if_neg (by omega)]; rfl
theorem Z2r (x y : Int × Int) (W : World) : Calls Tryz.prog 235 #[.agg #[.int .i64 x.1, .int .i64 x.2], .agg #[.int .i64 y.1, .int .i64 y.2]] W fun e w' => e = .returned (.int .i64 (Lib.compareInt x.1 y.1)) /\ ∃ q os', w' = grow (W.drewN q) os' := by
 have hcon := fun W' => Z2s x.1 y.1 W'
 generalize Lib.compareInt x.1 y.1 = r at hcon ⊢
 go_enter Tryz.func235, Tryz.ntmps235
 go_wp2_with (go_at_call 236; refine (hcon _).mono ?_; rintro e w' ⟨rfl, rfl⟩)
 go_ret
 exact ⟨rfl, 0, _, by rw [alloc_eq_grow, alloc_eq_grow, grow_grow]; rfl⟩
theorem ok_qi : FunOk Tryz.prog tab g_qi F_qi := by
 unfold F_qi; rw [Zac]
 exact Zjg sortLaid Tryz.isAgg115 Tryz.sizeOf115 rfl (enters_of Tryz.func235 (by kernel_rfl) rfl) Z2r
end Go.Wr

