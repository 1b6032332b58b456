/-
  What is proved: the law FnExactWorldSame returns true for every input and leaves its arguments as they were. No condition.
-/
import Derived.Test.YtidfoaomjdjngaaGreatMa
import Derived.Test.YtidfoaomjdjngaaGreatProg
import Derived.KernelRfl
set_option linter.unusedVariables false
set_option linter.unusedSimpArgs false
namespace Go.Wr
open Go.Proofs
def tab : Nat → FuncId := fun g => [140, 76, 176, 139, 72, 83, 82, 75, 74, 73, 79, 85, 84, 78, 77, 81, 80, 28, 71, 70, 27, 26, 86, 30, 29, 8, 40, 192, 180, 177, 141, 178, 142, 87, 31, 14, 146, 91, 147, 92, 179, 144, 89, 143, 88, 145, 90, 32, 148, 93, 33, 9, 34, 190, 171, 169, 121, 122, 48, 18, 10, 126, 52, 127, 53, 170, 124, 50, 123, 49, 125, 51, 19, 128, 54, 20, 5, 37, 191, 175, 172, 131, 173, 132, 63, 23, 12, 136, 67, 137, 68, 174, 134, 65, 133, 64, 135, 66, 24, 138, 69, 25, 7, 59, 130, 61, 60, 57, 55, 129, 56, 58, 21, 62, 22, 6, 3].getD g 0
theorem is_slices_Equal_Sint : funIs Tryz.prog tab m_slices_Equal_Sint Tryz.f140 = true := by kernel_rfl
theorem is_impl_confSame : funIs Tryz.prog tab m_impl_confSame Tryz.f76 = true := by kernel_rfl
theorem is_slices_EqualFunc_SSint : funIs Tryz.prog tab m_slices_EqualFunc_SSint Tryz.f176 = true := by kernel_rfl
theorem is_impl_SketchSame : funIs Tryz.prog tab m_impl_SketchSame Tryz.f139 = true := by kernel_rfl
theorem is_slices_Equal_Simpl_Span : funIs Tryz.prog tab m_slices_Equal_Simpl_Span Tryz.f72 = true := by kernel_rfl
theorem is_impl_EntrySame : funIs Tryz.prog tab m_impl_EntrySame Tryz.f83 = true := by kernel_rfl
theorem is_slices_EqualFunc_Simpl_Entry : funIs Tryz.prog tab m_slices_EqualFunc_Simpl_Entry Tryz.f82 = true := by kernel_rfl
theorem is_impl_RowSame : funIs Tryz.prog tab m_impl_RowSame Tryz.f75 = true := by kernel_rfl
theorem is_slices_EqualFunc_Simpl_Row : funIs Tryz.prog tab m_slices_EqualFunc_Simpl_Row Tryz.f74 = true := by kernel_rfl
theorem is_impl_HouseSame_c1 : funIs Tryz.prog tab m_impl_HouseSame_c1 Tryz.f73 = true := by kernel_rfl
theorem is_slices_EqualFunc_SSimpl_Row : funIs Tryz.prog tab m_slices_EqualFunc_SSimpl_Row Tryz.f79 = true := by kernel_rfl
theorem is_impl_outSame : funIs Tryz.prog tab m_impl_outSame Tryz.f85 = true := by kernel_rfl
theorem is_slices_EqualFunc_Simpl_Out : funIs Tryz.prog tab m_slices_EqualFunc_Simpl_Out Tryz.f84 = true := by kernel_rfl
theorem is_impl_seatSame : funIs Tryz.prog tab m_impl_seatSame Tryz.f78 = true := by kernel_rfl
theorem is_slices_EqualFunc_Simpl_Seat : funIs Tryz.prog tab m_slices_EqualFunc_Simpl_Seat Tryz.f77 = true := by kernel_rfl
theorem is_impl_turnSame : funIs Tryz.prog tab m_impl_turnSame Tryz.f81 = true := by kernel_rfl
theorem is_slices_EqualFunc_Simpl_Turn : funIs Tryz.prog tab m_slices_EqualFunc_Simpl_Turn Tryz.f80 = true := by kernel_rfl
theorem is_impl_HouseSame : funIs Tryz.prog tab m_impl_HouseSame Tryz.f28 = true := by kernel_rfl
theorem is_impl_itemSame : funIs Tryz.prog tab m_impl_itemSame Tryz.f71 = true := by kernel_rfl
theorem is_slices_EqualFunc_Simpl_Item : funIs Tryz.prog tab m_slices_EqualFunc_Simpl_Item Tryz.f70 = true := by kernel_rfl
theorem is_impl_agentSame : funIs Tryz.prog tab m_impl_agentSame Tryz.f27 = true := by kernel_rfl
theorem is_slices_EqualFunc_Simpl_Agent : funIs Tryz.prog tab m_slices_EqualFunc_Simpl_Agent Tryz.f26 = true := by kernel_rfl
theorem is_bytes_Equal : funIs Tryz.prog tab m_bytes_Equal Tryz.f86 = true := by kernel_rfl
theorem is_impl_packSame : funIs Tryz.prog tab m_impl_packSame Tryz.f30 = true := by kernel_rfl
theorem is_slices_EqualFunc_Simpl_Pack : funIs Tryz.prog tab m_slices_EqualFunc_Simpl_Pack Tryz.f29 = true := by kernel_rfl
theorem is_impl_WorldSame : funIs Tryz.prog tab m_impl_WorldSame Tryz.f8 = true := by kernel_rfl
theorem is_laws_eqIntS : funIs Tryz.prog tab m_laws_eqIntS Tryz.f40 = true := by kernel_rfl
theorem is_laws_eqIntSS : funIs Tryz.prog tab m_laws_eqIntSS Tryz.f192 = true := by kernel_rfl
theorem is_laws_eqSketch : funIs Tryz.prog tab m_laws_eqSketch Tryz.f180 = true := by kernel_rfl
theorem is_laws_eqItem : funIs Tryz.prog tab m_laws_eqItem Tryz.f177 = true := by kernel_rfl
theorem is_laws_eqItemS : funIs Tryz.prog tab m_laws_eqItemS Tryz.f141 = true := by kernel_rfl
theorem is_laws_eqSpan : funIs Tryz.prog tab m_laws_eqSpan Tryz.f178 = true := by kernel_rfl
theorem is_laws_eqSpanS : funIs Tryz.prog tab m_laws_eqSpanS Tryz.f142 = true := by kernel_rfl
theorem is_laws_eqAgent : funIs Tryz.prog tab m_laws_eqAgent Tryz.f87 = true := by kernel_rfl
theorem is_laws_eqAgentS : funIs Tryz.prog tab m_laws_eqAgentS Tryz.f31 = true := by kernel_rfl
theorem is_laws_eqConf : funIs Tryz.prog tab m_laws_eqConf Tryz.f14 = true := by kernel_rfl
theorem is_laws_eqEntry : funIs Tryz.prog tab m_laws_eqEntry Tryz.f146 = true := by kernel_rfl
theorem is_laws_eqEntryS : funIs Tryz.prog tab m_laws_eqEntryS Tryz.f91 = true := by kernel_rfl
theorem is_laws_eqOut : funIs Tryz.prog tab m_laws_eqOut Tryz.f147 = true := by kernel_rfl
theorem is_laws_eqOutS : funIs Tryz.prog tab m_laws_eqOutS Tryz.f92 = true := by kernel_rfl
theorem is_laws_eqRow : funIs Tryz.prog tab m_laws_eqRow Tryz.f179 = true := by kernel_rfl
theorem is_laws_eqRowS : funIs Tryz.prog tab m_laws_eqRowS Tryz.f144 = true := by kernel_rfl
theorem is_laws_eqRowSS : funIs Tryz.prog tab m_laws_eqRowSS Tryz.f89 = true := by kernel_rfl
theorem is_laws_eqSeat : funIs Tryz.prog tab m_laws_eqSeat Tryz.f143 = true := by kernel_rfl
theorem is_laws_eqSeatS : funIs Tryz.prog tab m_laws_eqSeatS Tryz.f88 = true := by kernel_rfl
theorem is_laws_eqTurn : funIs Tryz.prog tab m_laws_eqTurn Tryz.f145 = true := by kernel_rfl
theorem is_laws_eqTurnS : funIs Tryz.prog tab m_laws_eqTurnS Tryz.f90 = true := by kernel_rfl
theorem is_laws_eqHouse : funIs Tryz.prog tab m_laws_eqHouse Tryz.f32 = true := by kernel_rfl
theorem is_laws_eqByteS : funIs Tryz.prog tab m_laws_eqByteS Tryz.f148 = true := by kernel_rfl
theorem is_laws_eqPack : funIs Tryz.prog tab m_laws_eqPack Tryz.f93 = true := by kernel_rfl
theorem is_laws_eqPackS : funIs Tryz.prog tab m_laws_eqPackS Tryz.f33 = true := by kernel_rfl
theorem is_laws_eqWorld : funIs Tryz.prog tab m_laws_eqWorld Tryz.f9 = true := by kernel_rfl
theorem is_laws_szIntS : funIs Tryz.prog tab m_laws_szIntS Tryz.f34 = true := by kernel_rfl
theorem is_laws_szIntSS : funIs Tryz.prog tab m_laws_szIntSS Tryz.f190 = true := by kernel_rfl
theorem is_laws_szSketch : funIs Tryz.prog tab m_laws_szSketch Tryz.f171 = true := by kernel_rfl
theorem is_laws_szItem : funIs Tryz.prog tab m_laws_szItem Tryz.f169 = true := by kernel_rfl
theorem is_laws_szItemS : funIs Tryz.prog tab m_laws_szItemS Tryz.f121 = true := by kernel_rfl
theorem is_laws_szSpanS : funIs Tryz.prog tab m_laws_szSpanS Tryz.f122 = true := by kernel_rfl
theorem is_laws_szAgent : funIs Tryz.prog tab m_laws_szAgent Tryz.f48 = true := by kernel_rfl
theorem is_laws_szAgentS : funIs Tryz.prog tab m_laws_szAgentS Tryz.f18 = true := by kernel_rfl
theorem is_laws_szConf : funIs Tryz.prog tab m_laws_szConf Tryz.f10 = true := by kernel_rfl
theorem is_laws_szEntry : funIs Tryz.prog tab m_laws_szEntry Tryz.f126 = true := by kernel_rfl
theorem is_laws_szEntryS : funIs Tryz.prog tab m_laws_szEntryS Tryz.f52 = true := by kernel_rfl
theorem is_laws_szOut : funIs Tryz.prog tab m_laws_szOut Tryz.f127 = true := by kernel_rfl
theorem is_laws_szOutS : funIs Tryz.prog tab m_laws_szOutS Tryz.f53 = true := by kernel_rfl
theorem is_laws_szRow : funIs Tryz.prog tab m_laws_szRow Tryz.f170 = true := by kernel_rfl
theorem is_laws_szRowS : funIs Tryz.prog tab m_laws_szRowS Tryz.f124 = true := by kernel_rfl
theorem is_laws_szRowSS : funIs Tryz.prog tab m_laws_szRowSS Tryz.f50 = true := by kernel_rfl
theorem is_laws_szSeat : funIs Tryz.prog tab m_laws_szSeat Tryz.f123 = true := by kernel_rfl
theorem is_laws_szSeatS : funIs Tryz.prog tab m_laws_szSeatS Tryz.f49 = true := by kernel_rfl
theorem is_laws_szTurn : funIs Tryz.prog tab m_laws_szTurn Tryz.f125 = true := by kernel_rfl
theorem is_laws_szTurnS : funIs Tryz.prog tab m_laws_szTurnS Tryz.f51 = true := by kernel_rfl
theorem is_laws_szHouse : funIs Tryz.prog tab m_laws_szHouse Tryz.f19 = true := by kernel_rfl
theorem is_laws_szByteS : funIs Tryz.prog tab m_laws_szByteS Tryz.f128 = true := by kernel_rfl
theorem is_laws_szPack : funIs Tryz.prog tab m_laws_szPack Tryz.f54 = true := by kernel_rfl
theorem is_laws_szPackS : funIs Tryz.prog tab m_laws_szPackS Tryz.f20 = true := by kernel_rfl
theorem is_laws_szWorld : funIs Tryz.prog tab m_laws_szWorld Tryz.f5 = true := by kernel_rfl
theorem is_laws_toIntS : funIs Tryz.prog tab m_laws_toIntS Tryz.f37 = true := by kernel_rfl
theorem is_laws_toIntSS : funIs Tryz.prog tab m_laws_toIntSS Tryz.f191 = true := by kernel_rfl
theorem is_laws_toSketch : funIs Tryz.prog tab m_laws_toSketch Tryz.f175 = true := by kernel_rfl
theorem is_laws_toItem : funIs Tryz.prog tab m_laws_toItem Tryz.f172 = true := by kernel_rfl
theorem is_laws_toItemS : funIs Tryz.prog tab m_laws_toItemS Tryz.f131 = true := by kernel_rfl
theorem is_laws_toSpan : funIs Tryz.prog tab m_laws_toSpan Tryz.f173 = true := by kernel_rfl
theorem is_laws_toSpanS : funIs Tryz.prog tab m_laws_toSpanS Tryz.f132 = true := by kernel_rfl
theorem is_laws_toAgent : funIs Tryz.prog tab m_laws_toAgent Tryz.f63 = true := by kernel_rfl
theorem is_laws_toAgentS : funIs Tryz.prog tab m_laws_toAgentS Tryz.f23 = true := by kernel_rfl
theorem is_laws_toConf : funIs Tryz.prog tab m_laws_toConf Tryz.f12 = true := by kernel_rfl
theorem is_laws_toEntry : funIs Tryz.prog tab m_laws_toEntry Tryz.f136 = true := by kernel_rfl
theorem is_laws_toEntryS : funIs Tryz.prog tab m_laws_toEntryS Tryz.f67 = true := by kernel_rfl
theorem is_laws_toOut : funIs Tryz.prog tab m_laws_toOut Tryz.f137 = true := by kernel_rfl
theorem is_laws_toOutS : funIs Tryz.prog tab m_laws_toOutS Tryz.f68 = true := by kernel_rfl
theorem is_laws_toRow : funIs Tryz.prog tab m_laws_toRow Tryz.f174 = true := by kernel_rfl
theorem is_laws_toRowS : funIs Tryz.prog tab m_laws_toRowS Tryz.f134 = true := by kernel_rfl
theorem is_laws_toRowSS : funIs Tryz.prog tab m_laws_toRowSS Tryz.f65 = true := by kernel_rfl
theorem is_laws_toSeat : funIs Tryz.prog tab m_laws_toSeat Tryz.f133 = true := by kernel_rfl
theorem is_laws_toSeatS : funIs Tryz.prog tab m_laws_toSeatS Tryz.f64 = true := by kernel_rfl
theorem is_laws_toTurn : funIs Tryz.prog tab m_laws_toTurn Tryz.f135 = true := by kernel_rfl
theorem is_laws_toTurnS : funIs Tryz.prog tab m_laws_toTurnS Tryz.f66 = true := by kernel_rfl
theorem is_laws_toHouse : funIs Tryz.prog tab m_laws_toHouse Tryz.f24 = true := by kernel_rfl
theorem is_laws_toByteS : funIs Tryz.prog tab m_laws_toByteS Tryz.f138 = true := by kernel_rfl
theorem is_laws_toPack : funIs Tryz.prog tab m_laws_toPack Tryz.f69 = true := by kernel_rfl
theorem is_laws_toPackS : funIs Tryz.prog tab m_laws_toPackS Tryz.f25 = true := by kernel_rfl
theorem is_laws_toWorld : funIs Tryz.prog tab m_laws_toWorld Tryz.f7 = true := by kernel_rfl
theorem is_spec_l1Same : funIs Tryz.prog tab m_spec_l1Same Tryz.f59 = true := by kernel_rfl
theorem is_spec_SketchSame : funIs Tryz.prog tab m_spec_SketchSame Tryz.f130 = true := by kernel_rfl
theorem is_spec_l5Same : funIs Tryz.prog tab m_spec_l5Same Tryz.f61 = true := by kernel_rfl
theorem is_spec_EntrySame : funIs Tryz.prog tab m_spec_EntrySame Tryz.f60 = true := by kernel_rfl
theorem is_spec_l10Entries : funIs Tryz.prog tab m_spec_l10Entries Tryz.f57 = true := by kernel_rfl
theorem is_spec_l12Confs : funIs Tryz.prog tab m_spec_l12Confs Tryz.f55 = true := by kernel_rfl
theorem is_spec_RowSame : funIs Tryz.prog tab m_spec_RowSame Tryz.f129 = true := by kernel_rfl
theorem is_spec_l12Rows : funIs Tryz.prog tab m_spec_l12Rows Tryz.f56 = true := by kernel_rfl
theorem is_spec_l12Seat : funIs Tryz.prog tab m_spec_l12Seat Tryz.f58 = true := by kernel_rfl
theorem is_spec_HouseSame : funIs Tryz.prog tab m_spec_HouseSame Tryz.f21 = true := by kernel_rfl
theorem is_spec_l7Item : funIs Tryz.prog tab m_spec_l7Item Tryz.f62 = true := by kernel_rfl
theorem is_spec_l17Agents : funIs Tryz.prog tab m_spec_l17Agents Tryz.f22 = true := by kernel_rfl
theorem is_spec_WorldSame : funIs Tryz.prog tab m_spec_WorldSame Tryz.f6 = true := by kernel_rfl
theorem is_laws_FnExactWorldSame : funIs Tryz.prog tab m_laws_FnExactWorldSame Tryz.f3 = true := by kernel_rfl
theorem fol : Tryz.prog.follows .mixedOrders = true := by kernel_rfl
end Go.Wr

