/-
  What is proved: lemmas on the way to the laws of this seat. No condition.
-/
import Derived.Test.YtgckmfadalhddaaGreatMa
import Derived.Test.YtgckmfadalhddaaGreatProg
import Derived.KernelRfl
import Derived.Test.YtgckmfadalhddaaGreatRe
set_option linter.unusedVariables false
set_option linter.unusedSimpArgs false
namespace Go.Wr
open Go.Proofs
def tab : Nat -> FuncId := fun g => [216, 210, 50, 181, 112, 123, 113, 49, 109, 176, 206, 175, 108, 106, 173, 174, 104, 177, 209, 180, 179, 178, 110, 107, 192, 126, 169, 170, 55, 168, 171, 172, 103, 105, 111, 75, 48, 17, 184, 231, 214, 211, 182, 212, 183, 114, 51, 115, 188, 119, 189, 120, 213, 186, 117, 185, 116, 187, 118, 52, 190, 121, 53, 18, 141, 219, 199, 197, 139, 140, 76, 39, 77, 145, 81, 146, 82, 198, 143, 79, 142, 78, 144, 80, 40, 147, 83, 41, 14, 161, 220, 205, 202, 159, 203, 160, 95, 45, 96, 165, 100, 166, 101, 204, 163, 98, 162, 97, 164, 99, 46, 167, 102, 47, 16, 44, 201, 158, 157, 94, 92, 122, 93, 43, 148, 84, 88, 87, 56, 156, 91, 153, 151, 155, 129, 89, 150, 54, 149, 152, 85, 200, 154, 86, 90, 71, 42, 15, 3, 20, 19, 4, 22, 21, 5, 24, 23, 6, 26, 25, 7, 58, 28, 57, 27, 8, 60, 30, 59, 29, 9, 63, 66, 125, 191, 124, 62, 32, 61, 31, 10, 67, 34, 65, 64, 33, 11, 195, 133, 136, 238, 232, 218, 217, 196, 134, 135, 72, 73, 137, 138, 74, 36, 131, 127, 215, 193, 194, 128, 130, 68, 69, 132, 70, 35, 12, 38, 37, 13].getD g 0
theorem is_q0 : funIs Tryz.prog tab m_q0 Tryz.f216 = true := by kernel_rfl
theorem is_q1 : funIs Tryz.prog tab m_q1 Tryz.f210 = true := by kernel_rfl
theorem is_q2 : funIs Tryz.prog tab m_q2 Tryz.f50 = true := by kernel_rfl
theorem is_q3 : funIs Tryz.prog tab m_q3 Tryz.f181 = true := by kernel_rfl
theorem is_q4 : funIs Tryz.prog tab m_q4 Tryz.f112 = true := by kernel_rfl
theorem is_q5 : funIs Tryz.prog tab m_q5 Tryz.f123 = true := by kernel_rfl
theorem is_q6 : funIs Tryz.prog tab m_q6 Tryz.f113 = true := by kernel_rfl
theorem is_q7 : funIs Tryz.prog tab m_q7 Tryz.f49 = true := by kernel_rfl
theorem is_q8 : funIs Tryz.prog tab m_q8 Tryz.f109 = true := by kernel_rfl
theorem is_q9 : funIs Tryz.prog tab m_q9 Tryz.f176 = true := by kernel_rfl
theorem is_qa : funIs Tryz.prog tab m_qa Tryz.f206 = true := by kernel_rfl
theorem is_qb : funIs Tryz.prog tab m_qb Tryz.f175 = true := by kernel_rfl
theorem is_qc : funIs Tryz.prog tab m_qc Tryz.f108 = true := by kernel_rfl
theorem is_qd : funIs Tryz.prog tab m_qd Tryz.f106 = true := by kernel_rfl
theorem is_qe : funIs Tryz.prog tab m_qe Tryz.f173 = true := by kernel_rfl
theorem is_qf : funIs Tryz.prog tab m_qf Tryz.f174 = true := by kernel_rfl
theorem is_qg : funIs Tryz.prog tab m_qg Tryz.f104 = true := by kernel_rfl
theorem is_qh : funIs Tryz.prog tab m_qh Tryz.f177 = true := by kernel_rfl
theorem is_qi : funIs Tryz.prog tab m_qi Tryz.f209 = true := by kernel_rfl
theorem is_qj : funIs Tryz.prog tab m_qj Tryz.f180 = true := by kernel_rfl
theorem is_qk : funIs Tryz.prog tab m_qk Tryz.f179 = true := by kernel_rfl
theorem is_qm : funIs Tryz.prog tab m_qm Tryz.f110 = true := by kernel_rfl
theorem is_qn : funIs Tryz.prog tab m_qn Tryz.f107 = true := by kernel_rfl
theorem is_qo : funIs Tryz.prog tab m_qo Tryz.f192 = true := by kernel_rfl
theorem is_qp : funIs Tryz.prog tab m_qp Tryz.f126 = true := by kernel_rfl
theorem is_qq : funIs Tryz.prog tab m_qq Tryz.f169 = true := by kernel_rfl
theorem is_qr : funIs Tryz.prog tab m_qr Tryz.f170 = true := by kernel_rfl
theorem is_qs : funIs Tryz.prog tab m_qs Tryz.f55 = true := by kernel_rfl
theorem is_qt : funIs Tryz.prog tab m_qt Tryz.f168 = true := by kernel_rfl
theorem is_qu : funIs Tryz.prog tab m_qu Tryz.f171 = true := by kernel_rfl
theorem is_qv : funIs Tryz.prog tab m_qv Tryz.f172 = true := by kernel_rfl
theorem is_qw : funIs Tryz.prog tab m_qw Tryz.f103 = true := by kernel_rfl
theorem is_qx : funIs Tryz.prog tab m_qx Tryz.f105 = true := by kernel_rfl
theorem is_qy : funIs Tryz.prog tab m_qy Tryz.f111 = true := by kernel_rfl
theorem is_qz : funIs Tryz.prog tab m_qz Tryz.f75 = true := by kernel_rfl
theorem is_q10 : funIs Tryz.prog tab m_q10 Tryz.f48 = true := by kernel_rfl
theorem is_q11 : funIs Tryz.prog tab m_q11 Tryz.f17 = true := by kernel_rfl
theorem is_q12 : funIs Tryz.prog tab m_q12 Tryz.f184 = true := by kernel_rfl
theorem is_q13 : funIs Tryz.prog tab m_q13 Tryz.f231 = true := by kernel_rfl
theorem is_q14 : funIs Tryz.prog tab m_q14 Tryz.f214 = true := by kernel_rfl
theorem is_q15 : funIs Tryz.prog tab m_q15 Tryz.f211 = true := by kernel_rfl
theorem is_q16 : funIs Tryz.prog tab m_q16 Tryz.f182 = true := by kernel_rfl
theorem is_q17 : funIs Tryz.prog tab m_q17 Tryz.f212 = true := by kernel_rfl
theorem is_q18 : funIs Tryz.prog tab m_q18 Tryz.f183 = true := by kernel_rfl
theorem is_q19 : funIs Tryz.prog tab m_q19 Tryz.f114 = true := by kernel_rfl
theorem is_q1a : funIs Tryz.prog tab m_q1a Tryz.f51 = true := by kernel_rfl
theorem is_q1b : funIs Tryz.prog tab m_q1b Tryz.f115 = true := by kernel_rfl
theorem is_q1c : funIs Tryz.prog tab m_q1c Tryz.f188 = true := by kernel_rfl
theorem is_q1d : funIs Tryz.prog tab m_q1d Tryz.f119 = true := by kernel_rfl
theorem is_q1e : funIs Tryz.prog tab m_q1e Tryz.f189 = true := by kernel_rfl
theorem is_q1f : funIs Tryz.prog tab m_q1f Tryz.f120 = true := by kernel_rfl
theorem is_q1g : funIs Tryz.prog tab m_q1g Tryz.f213 = true := by kernel_rfl
theorem is_q1h : funIs Tryz.prog tab m_q1h Tryz.f186 = true := by kernel_rfl
theorem is_q1i : funIs Tryz.prog tab m_q1i Tryz.f117 = true := by kernel_rfl
theorem is_q1j : funIs Tryz.prog tab m_q1j Tryz.f185 = true := by kernel_rfl
theorem is_q1k : funIs Tryz.prog tab m_q1k Tryz.f116 = true := by kernel_rfl
theorem is_q1l : funIs Tryz.prog tab m_q1l Tryz.f187 = true := by kernel_rfl
theorem is_q1m : funIs Tryz.prog tab m_q1m Tryz.f118 = true := by kernel_rfl
theorem is_q1n : funIs Tryz.prog tab m_q1n Tryz.f52 = true := by kernel_rfl
theorem is_q1o : funIs Tryz.prog tab m_q1o Tryz.f190 = true := by kernel_rfl
theorem is_q1p : funIs Tryz.prog tab m_q1p Tryz.f121 = true := by kernel_rfl
theorem is_q1q : funIs Tryz.prog tab m_q1q Tryz.f53 = true := by kernel_rfl
theorem is_q1r : funIs Tryz.prog tab m_q1r Tryz.f18 = true := by kernel_rfl
theorem is_q1s : funIs Tryz.prog tab m_q1s Tryz.f141 = true := by kernel_rfl
theorem is_q1t : funIs Tryz.prog tab m_q1t Tryz.f219 = true := by kernel_rfl
theorem is_q1u : funIs Tryz.prog tab m_q1u Tryz.f199 = true := by kernel_rfl
theorem is_q1v : funIs Tryz.prog tab m_q1v Tryz.f197 = true := by kernel_rfl
theorem is_q1w : funIs Tryz.prog tab m_q1w Tryz.f139 = true := by kernel_rfl
theorem is_q1x : funIs Tryz.prog tab m_q1x Tryz.f140 = true := by kernel_rfl
theorem is_q1y : funIs Tryz.prog tab m_q1y Tryz.f76 = true := by kernel_rfl
theorem is_q1z : funIs Tryz.prog tab m_q1z Tryz.f39 = true := by kernel_rfl
theorem is_q20 : funIs Tryz.prog tab m_q20 Tryz.f77 = true := by kernel_rfl
theorem is_q21 : funIs Tryz.prog tab m_q21 Tryz.f145 = true := by kernel_rfl
theorem is_q22 : funIs Tryz.prog tab m_q22 Tryz.f81 = true := by kernel_rfl
theorem is_q23 : funIs Tryz.prog tab m_q23 Tryz.f146 = true := by kernel_rfl
theorem is_q24 : funIs Tryz.prog tab m_q24 Tryz.f82 = true := by kernel_rfl
theorem is_q25 : funIs Tryz.prog tab m_q25 Tryz.f198 = true := by kernel_rfl
theorem is_q26 : funIs Tryz.prog tab m_q26 Tryz.f143 = true := by kernel_rfl
theorem is_q27 : funIs Tryz.prog tab m_q27 Tryz.f79 = true := by kernel_rfl
theorem is_q28 : funIs Tryz.prog tab m_q28 Tryz.f142 = true := by kernel_rfl
theorem is_q29 : funIs Tryz.prog tab m_q29 Tryz.f78 = true := by kernel_rfl
theorem is_q2a : funIs Tryz.prog tab m_q2a Tryz.f144 = true := by kernel_rfl
theorem is_q2b : funIs Tryz.prog tab m_q2b Tryz.f80 = true := by kernel_rfl
theorem is_q2c : funIs Tryz.prog tab m_q2c Tryz.f40 = true := by kernel_rfl
theorem is_q2d : funIs Tryz.prog tab m_q2d Tryz.f147 = true := by kernel_rfl
theorem is_q2e : funIs Tryz.prog tab m_q2e Tryz.f83 = true := by kernel_rfl
theorem is_q2f : funIs Tryz.prog tab m_q2f Tryz.f41 = true := by kernel_rfl
theorem is_q2g : funIs Tryz.prog tab m_q2g Tryz.f14 = true := by kernel_rfl
theorem is_q2h : funIs Tryz.prog tab m_q2h Tryz.f161 = true := by kernel_rfl
theorem is_q2i : funIs Tryz.prog tab m_q2i Tryz.f220 = true := by kernel_rfl
theorem is_q2j : funIs Tryz.prog tab m_q2j Tryz.f205 = true := by kernel_rfl
theorem is_q2k : funIs Tryz.prog tab m_q2k Tryz.f202 = true := by kernel_rfl
theorem is_q2l : funIs Tryz.prog tab m_q2l Tryz.f159 = true := by kernel_rfl
theorem is_q2m : funIs Tryz.prog tab m_q2m Tryz.f203 = true := by kernel_rfl
theorem is_q2n : funIs Tryz.prog tab m_q2n Tryz.f160 = true := by kernel_rfl
theorem is_q2o : funIs Tryz.prog tab m_q2o Tryz.f95 = true := by kernel_rfl
theorem is_q2p : funIs Tryz.prog tab m_q2p Tryz.f45 = true := by kernel_rfl
theorem is_q2q : funIs Tryz.prog tab m_q2q Tryz.f96 = true := by kernel_rfl
theorem is_q2r : funIs Tryz.prog tab m_q2r Tryz.f165 = true := by kernel_rfl
theorem is_q2s : funIs Tryz.prog tab m_q2s Tryz.f100 = true := by kernel_rfl
theorem is_q2t : funIs Tryz.prog tab m_q2t Tryz.f166 = true := by kernel_rfl
theorem is_q2u : funIs Tryz.prog tab m_q2u Tryz.f101 = true := by kernel_rfl
theorem is_q2v : funIs Tryz.prog tab m_q2v Tryz.f204 = true := by kernel_rfl
theorem is_q2w : funIs Tryz.prog tab m_q2w Tryz.f163 = true := by kernel_rfl
theorem is_q2x : funIs Tryz.prog tab m_q2x Tryz.f98 = true := by kernel_rfl
theorem is_q2y : funIs Tryz.prog tab m_q2y Tryz.f162 = true := by kernel_rfl
theorem is_q2z : funIs Tryz.prog tab m_q2z Tryz.f97 = true := by kernel_rfl
theorem is_q30 : funIs Tryz.prog tab m_q30 Tryz.f164 = true := by kernel_rfl
theorem is_q31 : funIs Tryz.prog tab m_q31 Tryz.f99 = true := by kernel_rfl
theorem is_q32 : funIs Tryz.prog tab m_q32 Tryz.f46 = true := by kernel_rfl
theorem is_q33 : funIs Tryz.prog tab m_q33 Tryz.f167 = true := by kernel_rfl
theorem is_q34 : funIs Tryz.prog tab m_q34 Tryz.f102 = true := by kernel_rfl
theorem is_q35 : funIs Tryz.prog tab m_q35 Tryz.f47 = true := by kernel_rfl
theorem is_q36 : funIs Tryz.prog tab m_q36 Tryz.f16 = true := by kernel_rfl
theorem is_q37 : funIs Tryz.prog tab m_q37 Tryz.f44 = true := by kernel_rfl
theorem is_q38 : funIs Tryz.prog tab m_q38 Tryz.f201 = true := by kernel_rfl
theorem is_q39 : funIs Tryz.prog tab m_q39 Tryz.f158 = true := by kernel_rfl
theorem is_q3a : funIs Tryz.prog tab m_q3a Tryz.f157 = true := by kernel_rfl
theorem is_q3b : funIs Tryz.prog tab m_q3b Tryz.f94 = true := by kernel_rfl
theorem is_q3c : funIs Tryz.prog tab m_q3c Tryz.f92 = true := by kernel_rfl
theorem is_q3d : funIs Tryz.prog tab m_q3d Tryz.f122 = true := by kernel_rfl
theorem is_q3e : funIs Tryz.prog tab m_q3e Tryz.f93 = true := by kernel_rfl
theorem is_q3f : funIs Tryz.prog tab m_q3f Tryz.f43 = true := by kernel_rfl
theorem is_q3g : funIs Tryz.prog tab m_q3g Tryz.f148 = true := by kernel_rfl
theorem is_q3h : funIs Tryz.prog tab m_q3h Tryz.f84 = true := by kernel_rfl
theorem is_q3i : funIs Tryz.prog tab m_q3i Tryz.f88 = true := by kernel_rfl
theorem is_q3j : funIs Tryz.prog tab m_q3j Tryz.f87 = true := by kernel_rfl
theorem is_q3k : funIs Tryz.prog tab m_q3k Tryz.f56 = true := by kernel_rfl
theorem is_q3l : funIs Tryz.prog tab m_q3l Tryz.f156 = true := by kernel_rfl
theorem is_q3m : funIs Tryz.prog tab m_q3m Tryz.f91 = true := by kernel_rfl
theorem is_q3n : funIs Tryz.prog tab m_q3n Tryz.f153 = true := by kernel_rfl
theorem is_q3o : funIs Tryz.prog tab m_q3o Tryz.f151 = true := by kernel_rfl
theorem is_q3p : funIs Tryz.prog tab m_q3p Tryz.f155 = true := by kernel_rfl
theorem is_q3q : funIs Tryz.prog tab m_q3q Tryz.f129 = true := by kernel_rfl
theorem is_q3r : funIs Tryz.prog tab m_q3r Tryz.f89 = true := by kernel_rfl
theorem is_q3s : funIs Tryz.prog tab m_q3s Tryz.f150 = true := by kernel_rfl
theorem is_q3t : funIs Tryz.prog tab m_q3t Tryz.f54 = true := by kernel_rfl
theorem is_q3u : funIs Tryz.prog tab m_q3u Tryz.f149 = true := by kernel_rfl
theorem is_q3v : funIs Tryz.prog tab m_q3v Tryz.f152 = true := by kernel_rfl
theorem is_q3w : funIs Tryz.prog tab m_q3w Tryz.f85 = true := by kernel_rfl
theorem is_q3x : funIs Tryz.prog tab m_q3x Tryz.f200 = true := by kernel_rfl
theorem is_q3y : funIs Tryz.prog tab m_q3y Tryz.f154 = true := by kernel_rfl
theorem is_q3z : funIs Tryz.prog tab m_q3z Tryz.f86 = true := by kernel_rfl
theorem is_q40 : funIs Tryz.prog tab m_q40 Tryz.f90 = true := by kernel_rfl
theorem is_q41 : funIs Tryz.prog tab m_q41 Tryz.f71 = true := by kernel_rfl
theorem is_q42 : funIs Tryz.prog tab m_q42 Tryz.f42 = true := by kernel_rfl
theorem is_q43 : funIs Tryz.prog tab m_q43 Tryz.f15 = true := by kernel_rfl
theorem is_q4m : funIs Tryz.prog tab m_q4m Tryz.f60 = true := by kernel_rfl
theorem is_q4n : funIs Tryz.prog tab m_q4n Tryz.f30 = true := by kernel_rfl
theorem is_q4o : funIs Tryz.prog tab m_q4o Tryz.f59 = true := by kernel_rfl
theorem is_q4p : funIs Tryz.prog tab m_q4p Tryz.f29 = true := by kernel_rfl
theorem is_q4r : funIs Tryz.prog tab m_q4r Tryz.f63 = true := by kernel_rfl
theorem is_q4s : funIs Tryz.prog tab m_q4s Tryz.f66 = true := by kernel_rfl
theorem is_q4t : funIs Tryz.prog tab m_q4t Tryz.f125 = true := by kernel_rfl
theorem is_q4u : funIs Tryz.prog tab m_q4u Tryz.f191 = true := by kernel_rfl
theorem is_q4v : funIs Tryz.prog tab m_q4v Tryz.f124 = true := by kernel_rfl
theorem is_q4w : funIs Tryz.prog tab m_q4w Tryz.f62 = true := by kernel_rfl
theorem is_q4x : funIs Tryz.prog tab m_q4x Tryz.f32 = true := by kernel_rfl
theorem is_q4y : funIs Tryz.prog tab m_q4y Tryz.f61 = true := by kernel_rfl
theorem is_q4z : funIs Tryz.prog tab m_q4z Tryz.f31 = true := by kernel_rfl
theorem is_q51 : funIs Tryz.prog tab m_q51 Tryz.f67 = true := by kernel_rfl
theorem is_q52 : funIs Tryz.prog tab m_q52 Tryz.f34 = true := by kernel_rfl
theorem is_q53 : funIs Tryz.prog tab m_q53 Tryz.f65 = true := by kernel_rfl
theorem is_q54 : funIs Tryz.prog tab m_q54 Tryz.f64 = true := by kernel_rfl
theorem is_q55 : funIs Tryz.prog tab m_q55 Tryz.f33 = true := by kernel_rfl
theorem is_q57 : funIs Tryz.prog tab m_q57 Tryz.f195 = true := by kernel_rfl
theorem is_q58 : funIs Tryz.prog tab m_q58 Tryz.f133 = true := by kernel_rfl
theorem is_q59 : funIs Tryz.prog tab m_q59 Tryz.f136 = true := by kernel_rfl
theorem is_q5a : funIs Tryz.prog tab m_q5a Tryz.f238 = true := by kernel_rfl
theorem is_q5b : funIs Tryz.prog tab m_q5b Tryz.f232 = true := by kernel_rfl
theorem is_q5c : funIs Tryz.prog tab m_q5c Tryz.f218 = true := by kernel_rfl
theorem is_q5d : funIs Tryz.prog tab m_q5d Tryz.f217 = true := by kernel_rfl
theorem is_q5e : funIs Tryz.prog tab m_q5e Tryz.f196 = true := by kernel_rfl
theorem is_q5f : funIs Tryz.prog tab m_q5f Tryz.f134 = true := by kernel_rfl
theorem is_q5g : funIs Tryz.prog tab m_q5g Tryz.f135 = true := by kernel_rfl
theorem is_q5h : funIs Tryz.prog tab m_q5h Tryz.f72 = true := by kernel_rfl
theorem is_q5i : funIs Tryz.prog tab m_q5i Tryz.f73 = true := by kernel_rfl
theorem is_q5j : funIs Tryz.prog tab m_q5j Tryz.f137 = true := by kernel_rfl
theorem is_q5k : funIs Tryz.prog tab m_q5k Tryz.f138 = true := by kernel_rfl
theorem is_q5l : funIs Tryz.prog tab m_q5l Tryz.f74 = true := by kernel_rfl
theorem is_q5m : funIs Tryz.prog tab m_q5m Tryz.f36 = true := by kernel_rfl
theorem is_q5n : funIs Tryz.prog tab m_q5n Tryz.f131 = true := by kernel_rfl
theorem is_q5o : funIs Tryz.prog tab m_q5o Tryz.f127 = true := by kernel_rfl
theorem is_q5p : funIs Tryz.prog tab m_q5p Tryz.f215 = true := by kernel_rfl
theorem is_q5q : funIs Tryz.prog tab m_q5q Tryz.f193 = true := by kernel_rfl
theorem is_q5r : funIs Tryz.prog tab m_q5r Tryz.f194 = true := by kernel_rfl
theorem is_q5s : funIs Tryz.prog tab m_q5s Tryz.f128 = true := by kernel_rfl
theorem is_q5t : funIs Tryz.prog tab m_q5t Tryz.f130 = true := by kernel_rfl
theorem is_q5u : funIs Tryz.prog tab m_q5u Tryz.f68 = true := by kernel_rfl
theorem is_q5v : funIs Tryz.prog tab m_q5v Tryz.f69 = true := by kernel_rfl
theorem is_q5w : funIs Tryz.prog tab m_q5w Tryz.f132 = true := by kernel_rfl
theorem is_q5x : funIs Tryz.prog tab m_q5x Tryz.f70 = true := by kernel_rfl
theorem is_q5y : funIs Tryz.prog tab m_q5y Tryz.f35 = true := by kernel_rfl
theorem is_q5z : funIs Tryz.prog tab m_q5z Tryz.f12 = true := by kernel_rfl
theorem is_q60 : funIs Tryz.prog tab m_q60 Tryz.f38 = true := by kernel_rfl
theorem is_q61 : funIs Tryz.prog tab m_q61 Tryz.f37 = true := by kernel_rfl
theorem is_q62 : funIs Tryz.prog tab m_q62 Tryz.f13 = true := by kernel_rfl
theorem fol : Tryz.prog.follows .mixedOrders = true := by kernel_rfl
end Go.Wr
namespace Go.Wr
open Go.Proofs Go.Sort Go.Shelf
def sortRen : Ren := ⟨fun | 6 => 178 | 15 => 208 | 14 => 207 | 28 => 229 | 29 => 230 | 20 => 221 | 21 => 222 | 22 => 223 | 23 => 224 | 24 => 225 | 25 => 226 | 26 => 227 | 27 => 228 | 46 => 233 | 47 => 234 | 48 => 235 | 49 => 236 | 50 => 237 | 57 => 239 | n => n, fun | 22 => 60 | 24 => 92 | 25 => 196 | 3 => 3 | 39 => 225 | 0 => 0 | 53 => 244 | 55 => 246 | 4 => 4 | 46 => 237 | 45 => 236 | 50 => 241 | 5 => 5 | 9 => 9 | 66 => 248 | 70 => 252 | 76 => 255 | 77 => 256 | n => n, fun n => n⟩
theorem sortLaid : SlLaysF0.n6 Tryz.prog sortRen := {
 mixed := by kernel_rfl,
 f6 := ⟨Tryz.f178.name, by decide, Tryz.func178.trans (congrArg some (by kernel_rfl))⟩,
 f14 := ⟨Tryz.f207.name, by decide, Tryz.func207.trans (congrArg some (by kernel_rfl))⟩,
 f15 := Tryz.func208.trans (congrArg some (by kernel_rfl)),
 f20 := ⟨Tryz.f221.name, by decide, Tryz.func221.trans (congrArg some (by kernel_rfl))⟩,
 f21 := ⟨Tryz.f222.name, by decide, Tryz.func222.trans (congrArg some (by kernel_rfl))⟩,
 f22 := ⟨Tryz.f223.name, by decide, Tryz.func223.trans (congrArg some (by kernel_rfl))⟩,
 f23 := ⟨Tryz.f224.name, by decide, Tryz.func224.trans (congrArg some (by kernel_rfl))⟩,
 f24 := ⟨Tryz.f225.name, by decide, Tryz.func225.trans (congrArg some (by kernel_rfl))⟩,
 f25 := ⟨Tryz.f226.name, by decide, Tryz.func226.trans (congrArg some (by kernel_rfl))⟩,
 f26 := ⟨Tryz.f227.name, by decide, Tryz.func227.trans (congrArg some (by kernel_rfl))⟩,
 f27 := ⟨Tryz.f228.name, by decide, Tryz.func228.trans (congrArg some (by kernel_rfl))⟩,
 f28 := Tryz.func229.trans (congrArg some (by kernel_rfl)),
 f29 := Tryz.func230.trans (congrArg some (by kernel_rfl)),
 f46 := ⟨Tryz.f233.name, by decide, Tryz.func233.trans (congrArg some (by kernel_rfl))⟩,
 f47 := Tryz.func234.trans (congrArg some (by kernel_rfl)),
 f48 := Tryz.func235.trans (congrArg some (by kernel_rfl)),
 f49 := ⟨Tryz.f236.name, by decide, Tryz.func236.trans (congrArg some (by kernel_rfl))⟩,
 f50 := ⟨Tryz.f237.name, by decide, Tryz.func237.trans (congrArg some (by kernel_rfl))⟩,
 f57 := ⟨Tryz.f239.name, by decide, Tryz.func239.trans (congrArg some (by kernel_rfl))⟩,
 t0 := Tryz.underlying0,
 a0 := Tryz.isAgg0,
 z0 := Tryz.sizeOf0,
 v0 := Tryz.zeroValue0,
 t3 := Tryz.underlying3,
 a3 := Tryz.isAgg3,
 z3 := Tryz.sizeOf3,
 v3 := Tryz.zeroValue3,
 t4 := Tryz.underlying4,
 a4 := Tryz.isAgg4,
 z4 := Tryz.sizeOf4,
 v4 := Tryz.zeroValue4,
 t5 := Tryz.underlying5,
 a5 := Tryz.isAgg5,
 z5 := Tryz.sizeOf5,
 v5 := Tryz.zeroValue5,
 t9 := Tryz.underlying9,
 a9 := Tryz.isAgg9,
 z9 := Tryz.sizeOf9,
 v9 := Tryz.zeroValue9,
 t22 := Tryz.underlying60,
 a22 := Tryz.isAgg60,
 z22 := Tryz.sizeOf60,
 v22 := Tryz.zeroValue60,
 t25 := Tryz.underlying196,
 a25 := Tryz.isAgg196,
 z25 := Tryz.sizeOf196,
 v25 := Tryz.zeroValue196,
 t39 := Tryz.underlying225,
 a39 := Tryz.isAgg225,
 z39 := Tryz.sizeOf225,
 v39 := Tryz.zeroValue225,
 t45 := Tryz.underlying236,
 a45 := Tryz.isAgg236,
 z45 := Tryz.sizeOf236,
 v45 := Tryz.zeroValue236,
 t46 := Tryz.underlying237,
 a46 := Tryz.isAgg237,
 z46 := Tryz.sizeOf237,
 v46 := Tryz.zeroValue237,
 t50 := Tryz.underlying241,
 a50 := Tryz.isAgg241,
 z50 := Tryz.sizeOf241,
 v50 := Tryz.zeroValue241,
 t53 := Tryz.underlying244,
 a53 := Tryz.isAgg244,
 z53 := Tryz.sizeOf244,
 v53 := Tryz.zeroValue244,
 t55 := Tryz.underlying246,
 a55 := Tryz.isAgg246,
 z55 := Tryz.sizeOf246,
 v55 := Tryz.zeroValue246,
 t66 := Tryz.underlying248,
 a66 := Tryz.isAgg248,
 z66 := Tryz.sizeOf248,
 v66 := Tryz.zeroValue248,
 t70 := Tryz.underlying252,
 a70 := Tryz.isAgg252,
 z70 := Tryz.sizeOf252,
 v70 := Tryz.zeroValue252,
 t76 := Tryz.underlying255,
 a76 := Tryz.isAgg255,
 z76 := Tryz.sizeOf255,
 v76 := Tryz.zeroValue255,
 t77 := Tryz.underlying256,
 a77 := Tryz.isAgg256,
 z77 := Tryz.sizeOf256,
 v77 := Tryz.zeroValue256 }
theorem cmp_int (x y : Int) (W : World) : Calls Tryz.prog 180 #[.int .i64 x, .int .i64 y] W fun e w' => e = .returned (.int .i64 (Lib.compareInt x y)) /\ w' = W := by
 go_enter Tryz.func180, Tryz.ntmps180
 go_wp2
 all_goals
  go_ret
  refine ⟨?_, rfl⟩
 ·rw [Lib.compareInt, if_pos (by omega)]; rfl
 ·rw [Lib.compareInt, if_neg (by omega), if_pos (by omega)]; rfl
 ·rw [Lib.compareInt, if_neg (by omega), if_neg (by omega)]; rfl
theorem cmp_go (x y : Int × Int) (W : World) : Calls Tryz.prog 179 #[.agg #[.int .i64 x.1, .int .i64 x.2], .agg #[.int .i64 y.1, .int .i64 y.2]] W fun e w' => e = .returned (.int .i64 (Lib.compareInt x.1 y.1)) /\ ∃ q os', w' = grow (W.drewN q) os' := by
 have hcon := fun W' => cmp_int x.1 y.1 W'
 generalize Lib.compareInt x.1 y.1 = r at hcon ⊢
 go_enter Tryz.func179, Tryz.ntmps179
 go_wp2_with (go_at_call 180; refine (hcon _).mono ?_; rintro e w' ⟨rfl, rfl⟩)
 go_ret
 exact ⟨rfl, 0, _, by rw [alloc_eq_grow, alloc_eq_grow, grow_grow]; rfl⟩
theorem ok_ql : FunOk Tryz.prog tab g_ql F_ql := by
 unfold F_ql; rw [lock_eq]
 exact sort_ok sortLaid Tryz.isAgg92 Tryz.sizeOf92 rfl (enters_of Tryz.func179 (by kernel_rfl) rfl) cmp_go
end Go.Wr

