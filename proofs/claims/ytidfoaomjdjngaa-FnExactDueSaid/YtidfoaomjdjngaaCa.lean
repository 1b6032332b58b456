/-
  What is proved: the law FnExactDue returns true for every input and leaves its arguments as they were. No condition.
-/
import Derived.Test.YtidfoaomjdjngaaMa
import Derived.Test.YtidfoaomjdjngaaProg
import Derived.KernelRfl
set_option linter.unusedVariables false
set_option linter.unusedSimpArgs false
namespace Go.Wr
open Go.Proofs
def tab : Nat → FuncId := fun g => [9, 4, 11, 16, 10, 5, 12, 6, 14, 17, 13, 7, 15, 8, 3].getD g 0
theorem is_laws_szIntS : funIs Try.prog tab m_laws_szIntS Try.f9 = true := by kernel_rfl
theorem is_laws_szConf : funIs Try.prog tab m_laws_szConf Try.f4 = true := by kernel_rfl
theorem is_spec_l1In : funIs Try.prog tab m_spec_l1In Try.f11 = true := by kernel_rfl
theorem is_spec_l11Nums : funIs Try.prog tab m_spec_l11Nums Try.f16 = true := by kernel_rfl
theorem is_spec_ConfOk : funIs Try.prog tab m_spec_ConfOk Try.f10 = true := by kernel_rfl
theorem is_spec_Due : funIs Try.prog tab m_spec_Due Try.f5 = true := by kernel_rfl
theorem is_laws_toIntS : funIs Try.prog tab m_laws_toIntS Try.f12 = true := by kernel_rfl
theorem is_laws_toConf : funIs Try.prog tab m_laws_toConf Try.f6 = true := by kernel_rfl
theorem is_impl_within : funIs Try.prog tab m_impl_within Try.f14 = true := by kernel_rfl
theorem is_impl_allWithin : funIs Try.prog tab m_impl_allWithin Try.f17 = true := by kernel_rfl
theorem is_impl_ConfOk : funIs Try.prog tab m_impl_ConfOk Try.f13 = true := by kernel_rfl
theorem is_impl_Due : funIs Try.prog tab m_impl_Due Try.f7 = true := by kernel_rfl
theorem is_laws_eqIntS : funIs Try.prog tab m_laws_eqIntS Try.f15 = true := by kernel_rfl
theorem is_laws_eqConf : funIs Try.prog tab m_laws_eqConf Try.f8 = true := by kernel_rfl
theorem is_laws_FnExactDue : funIs Try.prog tab m_laws_FnExactDue Try.f3 = true := by kernel_rfl
theorem fol : Try.prog.follows .mixedOrders = true := by kernel_rfl
end Go.Wr

