/-
  What is proved: lemmas on the way to the laws of this seat. No condition.
-/
import Derived.Test.YtjnfhlmfdchepaaGreatMa
import Derived.Test.YtjnfhlmfdchepaaGreatProg
import Derived.KernelRfl
set_option linter.unusedVariables false
set_option linter.unusedSimpArgs false
namespace Go.Wr
open Go.Proofs
def tab : Nat -> FuncId := fun g => [74, 106, 72, 99, 77, 100, 78, 39, 18, 73, 35, 98, 76, 97, 75, 37, 38, 36, 17, 7, 22, 9, 107, 104, 101, 79, 102, 80, 40, 19, 84, 44, 85, 45, 103, 82, 42, 81, 41, 83, 43, 20, 86, 46, 21, 8, 89, 90, 55, 56, 27, 57, 61, 62, 91, 59, 58, 60, 28, 63, 29, 12, 23, 10, 87, 47, 48, 24, 52, 53, 88, 50, 49, 51, 25, 54, 26, 11, 13, 4, 16, 6, 64, 105, 96, 95, 71, 69, 94, 70, 34, 15, 65, 30, 93, 67, 68, 92, 66, 32, 33, 31, 14, 5, 3].getD g 0
theorem is_q0 : funIs Tryz.prog tab m_q0 Tryz.f74 = true := by kernel_rfl
theorem is_q1 : funIs Tryz.prog tab m_q1 Tryz.f106 = true := by kernel_rfl
theorem is_q2 : funIs Tryz.prog tab m_q2 Tryz.f72 = true := by kernel_rfl
theorem is_q3 : funIs Tryz.prog tab m_q3 Tryz.f99 = true := by kernel_rfl
theorem is_q4 : funIs Tryz.prog tab m_q4 Tryz.f77 = true := by kernel_rfl
theorem is_q5 : funIs Tryz.prog tab m_q5 Tryz.f100 = true := by kernel_rfl
theorem is_q6 : funIs Tryz.prog tab m_q6 Tryz.f78 = true := by kernel_rfl
theorem is_q7 : funIs Tryz.prog tab m_q7 Tryz.f39 = true := by kernel_rfl
theorem is_q8 : funIs Tryz.prog tab m_q8 Tryz.f18 = true := by kernel_rfl
theorem is_q9 : funIs Tryz.prog tab m_q9 Tryz.f73 = true := by kernel_rfl
theorem is_qa : funIs Tryz.prog tab m_qa Tryz.f35 = true := by kernel_rfl
theorem is_qb : funIs Tryz.prog tab m_qb Tryz.f98 = true := by kernel_rfl
theorem is_qc : funIs Tryz.prog tab m_qc Tryz.f76 = true := by kernel_rfl
theorem is_qd : funIs Tryz.prog tab m_qd Tryz.f97 = true := by kernel_rfl
theorem is_qe : funIs Tryz.prog tab m_qe Tryz.f75 = true := by kernel_rfl
theorem is_qf : funIs Tryz.prog tab m_qf Tryz.f37 = true := by kernel_rfl
theorem is_qg : funIs Tryz.prog tab m_qg Tryz.f38 = true := by kernel_rfl
theorem is_qh : funIs Tryz.prog tab m_qh Tryz.f36 = true := by kernel_rfl
theorem is_qi : funIs Tryz.prog tab m_qi Tryz.f17 = true := by kernel_rfl
theorem is_qj : funIs Tryz.prog tab m_qj Tryz.f7 = true := by kernel_rfl
theorem is_qk : funIs Tryz.prog tab m_qk Tryz.f22 = true := by kernel_rfl
theorem is_ql : funIs Tryz.prog tab m_ql Tryz.f9 = true := by kernel_rfl
theorem is_qm : funIs Tryz.prog tab m_qm Tryz.f107 = true := by kernel_rfl
theorem is_qn : funIs Tryz.prog tab m_qn Tryz.f104 = true := by kernel_rfl
theorem is_qo : funIs Tryz.prog tab m_qo Tryz.f101 = true := by kernel_rfl
theorem is_qp : funIs Tryz.prog tab m_qp Tryz.f79 = true := by kernel_rfl
theorem is_qq : funIs Tryz.prog tab m_qq Tryz.f102 = true := by kernel_rfl
theorem is_qr : funIs Tryz.prog tab m_qr Tryz.f80 = true := by kernel_rfl
theorem is_qs : funIs Tryz.prog tab m_qs Tryz.f40 = true := by kernel_rfl
theorem is_qt : funIs Tryz.prog tab m_qt Tryz.f19 = true := by kernel_rfl
theorem is_qu : funIs Tryz.prog tab m_qu Tryz.f84 = true := by kernel_rfl
theorem is_qv : funIs Tryz.prog tab m_qv Tryz.f44 = true := by kernel_rfl
theorem is_qw : funIs Tryz.prog tab m_qw Tryz.f85 = true := by kernel_rfl
theorem is_qx : funIs Tryz.prog tab m_qx Tryz.f45 = true := by kernel_rfl
theorem is_qy : funIs Tryz.prog tab m_qy Tryz.f103 = true := by kernel_rfl
theorem is_qz : funIs Tryz.prog tab m_qz Tryz.f82 = true := by kernel_rfl
theorem is_q10 : funIs Tryz.prog tab m_q10 Tryz.f42 = true := by kernel_rfl
theorem is_q11 : funIs Tryz.prog tab m_q11 Tryz.f81 = true := by kernel_rfl
theorem is_q12 : funIs Tryz.prog tab m_q12 Tryz.f41 = true := by kernel_rfl
theorem is_q13 : funIs Tryz.prog tab m_q13 Tryz.f83 = true := by kernel_rfl
theorem is_q14 : funIs Tryz.prog tab m_q14 Tryz.f43 = true := by kernel_rfl
theorem is_q15 : funIs Tryz.prog tab m_q15 Tryz.f20 = true := by kernel_rfl
theorem is_q16 : funIs Tryz.prog tab m_q16 Tryz.f86 = true := by kernel_rfl
theorem is_q17 : funIs Tryz.prog tab m_q17 Tryz.f46 = true := by kernel_rfl
theorem is_q18 : funIs Tryz.prog tab m_q18 Tryz.f21 = true := by kernel_rfl
theorem is_q19 : funIs Tryz.prog tab m_q19 Tryz.f8 = true := by kernel_rfl
theorem is_q1a : funIs Tryz.prog tab m_q1a Tryz.f89 = true := by kernel_rfl
theorem is_q1b : funIs Tryz.prog tab m_q1b Tryz.f90 = true := by kernel_rfl
theorem is_q1c : funIs Tryz.prog tab m_q1c Tryz.f55 = true := by kernel_rfl
theorem is_q1d : funIs Tryz.prog tab m_q1d Tryz.f56 = true := by kernel_rfl
theorem is_q1e : funIs Tryz.prog tab m_q1e Tryz.f27 = true := by kernel_rfl
theorem is_q1f : funIs Tryz.prog tab m_q1f Tryz.f57 = true := by kernel_rfl
theorem is_q1g : funIs Tryz.prog tab m_q1g Tryz.f61 = true := by kernel_rfl
theorem is_q1h : funIs Tryz.prog tab m_q1h Tryz.f62 = true := by kernel_rfl
theorem is_q1i : funIs Tryz.prog tab m_q1i Tryz.f91 = true := by kernel_rfl
theorem is_q1j : funIs Tryz.prog tab m_q1j Tryz.f59 = true := by kernel_rfl
theorem is_q1k : funIs Tryz.prog tab m_q1k Tryz.f58 = true := by kernel_rfl
theorem is_q1l : funIs Tryz.prog tab m_q1l Tryz.f60 = true := by kernel_rfl
theorem is_q1m : funIs Tryz.prog tab m_q1m Tryz.f28 = true := by kernel_rfl
theorem is_q1n : funIs Tryz.prog tab m_q1n Tryz.f63 = true := by kernel_rfl
theorem is_q1o : funIs Tryz.prog tab m_q1o Tryz.f29 = true := by kernel_rfl
theorem is_q1p : funIs Tryz.prog tab m_q1p Tryz.f12 = true := by kernel_rfl
theorem is_q1q : funIs Tryz.prog tab m_q1q Tryz.f23 = true := by kernel_rfl
theorem is_q1r : funIs Tryz.prog tab m_q1r Tryz.f10 = true := by kernel_rfl
theorem is_q1s : funIs Tryz.prog tab m_q1s Tryz.f87 = true := by kernel_rfl
theorem is_q1t : funIs Tryz.prog tab m_q1t Tryz.f47 = true := by kernel_rfl
theorem is_q1u : funIs Tryz.prog tab m_q1u Tryz.f48 = true := by kernel_rfl
theorem is_q1v : funIs Tryz.prog tab m_q1v Tryz.f24 = true := by kernel_rfl
theorem is_q1w : funIs Tryz.prog tab m_q1w Tryz.f52 = true := by kernel_rfl
theorem is_q1x : funIs Tryz.prog tab m_q1x Tryz.f53 = true := by kernel_rfl
theorem is_q1y : funIs Tryz.prog tab m_q1y Tryz.f88 = true := by kernel_rfl
theorem is_q1z : funIs Tryz.prog tab m_q1z Tryz.f50 = true := by kernel_rfl
theorem is_q20 : funIs Tryz.prog tab m_q20 Tryz.f49 = true := by kernel_rfl
theorem is_q21 : funIs Tryz.prog tab m_q21 Tryz.f51 = true := by kernel_rfl
theorem is_q22 : funIs Tryz.prog tab m_q22 Tryz.f25 = true := by kernel_rfl
theorem is_q23 : funIs Tryz.prog tab m_q23 Tryz.f54 = true := by kernel_rfl
theorem is_q24 : funIs Tryz.prog tab m_q24 Tryz.f26 = true := by kernel_rfl
theorem is_q25 : funIs Tryz.prog tab m_q25 Tryz.f11 = true := by kernel_rfl
theorem is_q26 : funIs Tryz.prog tab m_q26 Tryz.f13 = true := by kernel_rfl
theorem is_q27 : funIs Tryz.prog tab m_q27 Tryz.f4 = true := by kernel_rfl
theorem is_q28 : funIs Tryz.prog tab m_q28 Tryz.f16 = true := by kernel_rfl
theorem is_q29 : funIs Tryz.prog tab m_q29 Tryz.f6 = true := by kernel_rfl
theorem is_q2a : funIs Tryz.prog tab m_q2a Tryz.f64 = true := by kernel_rfl
theorem is_q2b : funIs Tryz.prog tab m_q2b Tryz.f105 = true := by kernel_rfl
theorem is_q2c : funIs Tryz.prog tab m_q2c Tryz.f96 = true := by kernel_rfl
theorem is_q2d : funIs Tryz.prog tab m_q2d Tryz.f95 = true := by kernel_rfl
theorem is_q2e : funIs Tryz.prog tab m_q2e Tryz.f71 = true := by kernel_rfl
theorem is_q2f : funIs Tryz.prog tab m_q2f Tryz.f69 = true := by kernel_rfl
theorem is_q2g : funIs Tryz.prog tab m_q2g Tryz.f94 = true := by kernel_rfl
theorem is_q2h : funIs Tryz.prog tab m_q2h Tryz.f70 = true := by kernel_rfl
theorem is_q2i : funIs Tryz.prog tab m_q2i Tryz.f34 = true := by kernel_rfl
theorem is_q2j : funIs Tryz.prog tab m_q2j Tryz.f15 = true := by kernel_rfl
theorem is_q2k : funIs Tryz.prog tab m_q2k Tryz.f65 = true := by kernel_rfl
theorem is_q2l : funIs Tryz.prog tab m_q2l Tryz.f30 = true := by kernel_rfl
theorem is_q2m : funIs Tryz.prog tab m_q2m Tryz.f93 = true := by kernel_rfl
theorem is_q2n : funIs Tryz.prog tab m_q2n Tryz.f67 = true := by kernel_rfl
theorem is_q2o : funIs Tryz.prog tab m_q2o Tryz.f68 = true := by kernel_rfl
theorem is_q2p : funIs Tryz.prog tab m_q2p Tryz.f92 = true := by kernel_rfl
theorem is_q2q : funIs Tryz.prog tab m_q2q Tryz.f66 = true := by kernel_rfl
theorem is_q2r : funIs Tryz.prog tab m_q2r Tryz.f32 = true := by kernel_rfl
theorem is_q2s : funIs Tryz.prog tab m_q2s Tryz.f33 = true := by kernel_rfl
theorem is_q2t : funIs Tryz.prog tab m_q2t Tryz.f31 = true := by kernel_rfl
theorem is_q2u : funIs Tryz.prog tab m_q2u Tryz.f14 = true := by kernel_rfl
theorem is_q2v : funIs Tryz.prog tab m_q2v Tryz.f5 = true := by kernel_rfl
theorem is_q2w : funIs Tryz.prog tab m_q2w Tryz.f3 = true := by kernel_rfl
theorem fol : Tryz.prog.follows .mixedOrders = true := by kernel_rfl
end Go.Wr

