/-
  What is proved: lemmas on the way to the laws of this seat. No condition.
-/
import Derived.Test.YtgckmfadalhddaaGreatMa
import Derived.Test.YtgckmfadalhddaaGreatProg
import Derived.KernelRfl
import Derived.Test.YtgckmfadalhddaaGreatRe
set_option linter.unusedVariables false
set_option linter.unusedSimpArgs false
namespace Go.Wr
open Go.Proofs
def tab : Nat -> FuncId := fun g => [216, 210, 50, 181, 112, 123, 113, 49, 109, 176, 206, 175, 108, 106, 173, 174, 104, 177, 209, 180, 179, 178, 110, 107, 192, 126, 169, 170, 55, 168, 171, 172, 103, 105, 111, 75, 48, 17, 184, 231, 214, 211, 182, 212, 183, 114, 51, 115, 188, 119, 189, 120, 213, 186, 117, 185, 116, 187, 118, 52, 190, 121, 53, 18, 141, 219, 199, 197, 139, 140, 76, 39, 77, 145, 81, 146, 82, 198, 143, 79, 142, 78, 144, 80, 40, 147, 83, 41, 14, 161, 220, 205, 202, 159, 203, 160, 95, 45, 96, 165, 100, 166, 101, 204, 163, 98, 162, 97, 164, 99, 46, 167, 102, 47, 16, 44, 201, 158, 157, 94, 92, 122, 93, 43, 148, 84, 88, 87, 56, 156, 91, 153, 151, 155, 129, 89, 150, 54, 149, 152, 85, 200, 154, 86, 90, 71, 42, 15, 3, 20, 19, 4, 22, 21, 5, 24, 23, 6, 26, 25, 7, 58, 28, 57, 27, 8, 60, 30, 59, 29, 9, 63, 66, 125, 191, 124, 62, 32, 61, 31, 10, 67, 34, 65, 64, 33, 11, 195, 133, 136, 238, 232, 218, 217, 196, 134, 135, 72, 73, 137, 138, 74, 36, 131, 127, 215, 193, 194, 128, 130, 68, 69, 132, 70, 35, 12, 38, 37, 13].getD g 0
theorem is_impl_copyInts : funIs Tryz.prog tab m_impl_copyInts Tryz.f216 = true := by kernel_rfl
theorem is_impl_counts : funIs Tryz.prog tab m_impl_counts Tryz.f210 = true := by kernel_rfl
theorem is_impl_within : funIs Tryz.prog tab m_impl_within Tryz.f50 = true := by kernel_rfl
theorem is_impl_SketchOk : funIs Tryz.prog tab m_impl_SketchOk Tryz.f181 = true := by kernel_rfl
theorem is_impl_ItemOk : funIs Tryz.prog tab m_impl_ItemOk Tryz.f112 = true := by kernel_rfl
theorem is_impl_SetOk : funIs Tryz.prog tab m_impl_SetOk Tryz.f123 = true := by kernel_rfl
theorem is_impl_allIn : funIs Tryz.prog tab m_impl_allIn Tryz.f113 = true := by kernel_rfl
theorem is_impl_AgentOk : funIs Tryz.prog tab m_impl_AgentOk Tryz.f49 = true := by kernel_rfl
theorem is_impl_IdOf : funIs Tryz.prog tab m_impl_IdOf Tryz.f109 = true := by kernel_rfl
theorem is_impl_SetHas_c1 : funIs Tryz.prog tab m_impl_SetHas_c1 Tryz.f176 = true := by kernel_rfl
theorem is_slices_IndexFunc_Simpl_Span : funIs Tryz.prog tab m_slices_IndexFunc_Simpl_Span Tryz.f206 = true := by kernel_rfl
theorem is_slices_ContainsFunc_Simpl_Span : funIs Tryz.prog tab m_slices_ContainsFunc_Simpl_Span Tryz.f175 = true := by kernel_rfl
theorem is_impl_SetHas : funIs Tryz.prog tab m_impl_SetHas Tryz.f108 = true := by kernel_rfl
theorem is_impl_added : funIs Tryz.prog tab m_impl_added Tryz.f106 = true := by kernel_rfl
theorem is_impl_EntryOk : funIs Tryz.prog tab m_impl_EntryOk Tryz.f173 = true := by kernel_rfl
theorem is_impl_SetApart : funIs Tryz.prog tab m_impl_SetApart Tryz.f174 = true := by kernel_rfl
theorem is_impl_apart : funIs Tryz.prog tab m_impl_apart Tryz.f104 = true := by kernel_rfl
theorem is_impl_copySet : funIs Tryz.prog tab m_impl_copySet Tryz.f177 = true := by kernel_rfl
theorem is_cmp_isNaN_int : funIs Tryz.prog tab m_cmp_isNaN_int Tryz.f209 = true := by kernel_rfl
theorem is_cmp_Compare_int : funIs Tryz.prog tab m_cmp_Compare_int Tryz.f180 = true := by kernel_rfl
theorem is_impl_union_c1 : funIs Tryz.prog tab m_impl_union_c1 Tryz.f179 = true := by kernel_rfl
theorem is_impl_union : funIs Tryz.prog tab m_impl_union Tryz.f110 = true := by kernel_rfl
theorem is_impl_idsOf : funIs Tryz.prog tab m_impl_idsOf Tryz.f107 = true := by kernel_rfl
theorem is_impl_allWithin : funIs Tryz.prog tab m_impl_allWithin Tryz.f192 = true := by kernel_rfl
theorem is_impl_ConfOk : funIs Tryz.prog tab m_impl_ConfOk Tryz.f126 = true := by kernel_rfl
theorem is_impl_RowOk : funIs Tryz.prog tab m_impl_RowOk Tryz.f169 = true := by kernel_rfl
theorem is_impl_RowIds : funIs Tryz.prog tab m_impl_RowIds Tryz.f170 = true := by kernel_rfl
theorem is_impl_SetSize : funIs Tryz.prog tab m_impl_SetSize Tryz.f55 = true := by kernel_rfl
theorem is_impl_SeatOk : funIs Tryz.prog tab m_impl_SeatOk Tryz.f168 = true := by kernel_rfl
theorem is_impl_TurnOk : funIs Tryz.prog tab m_impl_TurnOk Tryz.f171 = true := by kernel_rfl
theorem is_impl_ahead : funIs Tryz.prog tab m_impl_ahead Tryz.f172 = true := by kernel_rfl
theorem is_impl_partsOk : funIs Tryz.prog tab m_impl_partsOk Tryz.f103 = true := by kernel_rfl
theorem is_impl_rowEntries : funIs Tryz.prog tab m_impl_rowEntries Tryz.f105 = true := by kernel_rfl
theorem is_impl_told : funIs Tryz.prog tab m_impl_told Tryz.f111 = true := by kernel_rfl
theorem is_slices_Equal_Simpl_Span : funIs Tryz.prog tab m_slices_Equal_Simpl_Span Tryz.f75 = true := by kernel_rfl
theorem is_impl_HouseOk : funIs Tryz.prog tab m_impl_HouseOk Tryz.f48 = true := by kernel_rfl
theorem is_impl_WorldOk : funIs Tryz.prog tab m_impl_WorldOk Tryz.f17 = true := by kernel_rfl
theorem is_laws_eqIntS : funIs Tryz.prog tab m_laws_eqIntS Tryz.f184 = true := by kernel_rfl
theorem is_laws_eqIntSS : funIs Tryz.prog tab m_laws_eqIntSS Tryz.f231 = true := by kernel_rfl
theorem is_laws_eqSketch : funIs Tryz.prog tab m_laws_eqSketch Tryz.f214 = true := by kernel_rfl
theorem is_laws_eqItem : funIs Tryz.prog tab m_laws_eqItem Tryz.f211 = true := by kernel_rfl
theorem is_laws_eqItemS : funIs Tryz.prog tab m_laws_eqItemS Tryz.f182 = true := by kernel_rfl
theorem is_laws_eqSpan : funIs Tryz.prog tab m_laws_eqSpan Tryz.f212 = true := by kernel_rfl
theorem is_laws_eqSpanS : funIs Tryz.prog tab m_laws_eqSpanS Tryz.f183 = true := by kernel_rfl
theorem is_laws_eqAgent : funIs Tryz.prog tab m_laws_eqAgent Tryz.f114 = true := by kernel_rfl
theorem is_laws_eqAgentS : funIs Tryz.prog tab m_laws_eqAgentS Tryz.f51 = true := by kernel_rfl
theorem is_laws_eqConf : funIs Tryz.prog tab m_laws_eqConf Tryz.f115 = true := by kernel_rfl
theorem is_laws_eqEntry : funIs Tryz.prog tab m_laws_eqEntry Tryz.f188 = true := by kernel_rfl
theorem is_laws_eqEntryS : funIs Tryz.prog tab m_laws_eqEntryS Tryz.f119 = true := by kernel_rfl
theorem is_laws_eqOut : funIs Tryz.prog tab m_laws_eqOut Tryz.f189 = true := by kernel_rfl
theorem is_laws_eqOutS : funIs Tryz.prog tab m_laws_eqOutS Tryz.f120 = true := by kernel_rfl
theorem is_laws_eqRow : funIs Tryz.prog tab m_laws_eqRow Tryz.f213 = true := by kernel_rfl
theorem is_laws_eqRowS : funIs Tryz.prog tab m_laws_eqRowS Tryz.f186 = true := by kernel_rfl
theorem is_laws_eqRowSS : funIs Tryz.prog tab m_laws_eqRowSS Tryz.f117 = true := by kernel_rfl
theorem is_laws_eqSeat : funIs Tryz.prog tab m_laws_eqSeat Tryz.f185 = true := by kernel_rfl
theorem is_laws_eqSeatS : funIs Tryz.prog tab m_laws_eqSeatS Tryz.f116 = true := by kernel_rfl
theorem is_laws_eqTurn : funIs Tryz.prog tab m_laws_eqTurn Tryz.f187 = true := by kernel_rfl
theorem is_laws_eqTurnS : funIs Tryz.prog tab m_laws_eqTurnS Tryz.f118 = true := by kernel_rfl
theorem is_laws_eqHouse : funIs Tryz.prog tab m_laws_eqHouse Tryz.f52 = true := by kernel_rfl
theorem is_laws_eqByteS : funIs Tryz.prog tab m_laws_eqByteS Tryz.f190 = true := by kernel_rfl
theorem is_laws_eqPack : funIs Tryz.prog tab m_laws_eqPack Tryz.f121 = true := by kernel_rfl
theorem is_laws_eqPackS : funIs Tryz.prog tab m_laws_eqPackS Tryz.f53 = true := by kernel_rfl
theorem is_laws_eqWorld : funIs Tryz.prog tab m_laws_eqWorld Tryz.f18 = true := by kernel_rfl
theorem is_laws_szIntS : funIs Tryz.prog tab m_laws_szIntS Tryz.f141 = true := by kernel_rfl
theorem is_laws_szIntSS : funIs Tryz.prog tab m_laws_szIntSS Tryz.f219 = true := by kernel_rfl
theorem is_laws_szSketch : funIs Tryz.prog tab m_laws_szSketch Tryz.f199 = true := by kernel_rfl
theorem is_laws_szItem : funIs Tryz.prog tab m_laws_szItem Tryz.f197 = true := by kernel_rfl
theorem is_laws_szItemS : funIs Tryz.prog tab m_laws_szItemS Tryz.f139 = true := by kernel_rfl
theorem is_laws_szSpanS : funIs Tryz.prog tab m_laws_szSpanS Tryz.f140 = true := by kernel_rfl
theorem is_laws_szAgent : funIs Tryz.prog tab m_laws_szAgent Tryz.f76 = true := by kernel_rfl
theorem is_laws_szAgentS : funIs Tryz.prog tab m_laws_szAgentS Tryz.f39 = true := by kernel_rfl
theorem is_laws_szConf : funIs Tryz.prog tab m_laws_szConf Tryz.f77 = true := by kernel_rfl
theorem is_laws_szEntry : funIs Tryz.prog tab m_laws_szEntry Tryz.f145 = true := by kernel_rfl
theorem is_laws_szEntryS : funIs Tryz.prog tab m_laws_szEntryS Tryz.f81 = true := by kernel_rfl
theorem is_laws_szOut : funIs Tryz.prog tab m_laws_szOut Tryz.f146 = true := by kernel_rfl
theorem is_laws_szOutS : funIs Tryz.prog tab m_laws_szOutS Tryz.f82 = true := by kernel_rfl
theorem is_laws_szRow : funIs Tryz.prog tab m_laws_szRow Tryz.f198 = true := by kernel_rfl
theorem is_laws_szRowS : funIs Tryz.prog tab m_laws_szRowS Tryz.f143 = true := by kernel_rfl
theorem is_laws_szRowSS : funIs Tryz.prog tab m_laws_szRowSS Tryz.f79 = true := by kernel_rfl
theorem is_laws_szSeat : funIs Tryz.prog tab m_laws_szSeat Tryz.f142 = true := by kernel_rfl
theorem is_laws_szSeatS : funIs Tryz.prog tab m_laws_szSeatS Tryz.f78 = true := by kernel_rfl
theorem is_laws_szTurn : funIs Tryz.prog tab m_laws_szTurn Tryz.f144 = true := by kernel_rfl
theorem is_laws_szTurnS : funIs Tryz.prog tab m_laws_szTurnS Tryz.f80 = true := by kernel_rfl
theorem is_laws_szHouse : funIs Tryz.prog tab m_laws_szHouse Tryz.f40 = true := by kernel_rfl
theorem is_laws_szByteS : funIs Tryz.prog tab m_laws_szByteS Tryz.f147 = true := by kernel_rfl
theorem is_laws_szPack : funIs Tryz.prog tab m_laws_szPack Tryz.f83 = true := by kernel_rfl
theorem is_laws_szPackS : funIs Tryz.prog tab m_laws_szPackS Tryz.f41 = true := by kernel_rfl
theorem is_laws_szWorld : funIs Tryz.prog tab m_laws_szWorld Tryz.f14 = true := by kernel_rfl
theorem is_laws_toIntS : funIs Tryz.prog tab m_laws_toIntS Tryz.f161 = true := by kernel_rfl
theorem is_laws_toIntSS : funIs Tryz.prog tab m_laws_toIntSS Tryz.f220 = true := by kernel_rfl
theorem is_laws_toSketch : funIs Tryz.prog tab m_laws_toSketch Tryz.f205 = true := by kernel_rfl
theorem is_laws_toItem : funIs Tryz.prog tab m_laws_toItem Tryz.f202 = true := by kernel_rfl
theorem is_laws_toItemS : funIs Tryz.prog tab m_laws_toItemS Tryz.f159 = true := by kernel_rfl
theorem is_laws_toSpan : funIs Tryz.prog tab m_laws_toSpan Tryz.f203 = true := by kernel_rfl
theorem is_laws_toSpanS : funIs Tryz.prog tab m_laws_toSpanS Tryz.f160 = true := by kernel_rfl
theorem is_laws_toAgent : funIs Tryz.prog tab m_laws_toAgent Tryz.f95 = true := by kernel_rfl
theorem is_laws_toAgentS : funIs Tryz.prog tab m_laws_toAgentS Tryz.f45 = true := by kernel_rfl
theorem is_laws_toConf : funIs Tryz.prog tab m_laws_toConf Tryz.f96 = true := by kernel_rfl
theorem is_laws_toEntry : funIs Tryz.prog tab m_laws_toEntry Tryz.f165 = true := by kernel_rfl
theorem is_laws_toEntryS : funIs Tryz.prog tab m_laws_toEntryS Tryz.f100 = true := by kernel_rfl
theorem is_laws_toOut : funIs Tryz.prog tab m_laws_toOut Tryz.f166 = true := by kernel_rfl
theorem is_laws_toOutS : funIs Tryz.prog tab m_laws_toOutS Tryz.f101 = true := by kernel_rfl
theorem is_laws_toRow : funIs Tryz.prog tab m_laws_toRow Tryz.f204 = true := by kernel_rfl
theorem is_laws_toRowS : funIs Tryz.prog tab m_laws_toRowS Tryz.f163 = true := by kernel_rfl
theorem is_laws_toRowSS : funIs Tryz.prog tab m_laws_toRowSS Tryz.f98 = true := by kernel_rfl
theorem is_laws_toSeat : funIs Tryz.prog tab m_laws_toSeat Tryz.f162 = true := by kernel_rfl
theorem is_laws_toSeatS : funIs Tryz.prog tab m_laws_toSeatS Tryz.f97 = true := by kernel_rfl
theorem is_laws_toTurn : funIs Tryz.prog tab m_laws_toTurn Tryz.f164 = true := by kernel_rfl
theorem is_laws_toTurnS : funIs Tryz.prog tab m_laws_toTurnS Tryz.f99 = true := by kernel_rfl
theorem is_laws_toHouse : funIs Tryz.prog tab m_laws_toHouse Tryz.f46 = true := by kernel_rfl
theorem is_laws_toByteS : funIs Tryz.prog tab m_laws_toByteS Tryz.f167 = true := by kernel_rfl
theorem is_laws_toPack : funIs Tryz.prog tab m_laws_toPack Tryz.f102 = true := by kernel_rfl
theorem is_laws_toPackS : funIs Tryz.prog tab m_laws_toPackS Tryz.f47 = true := by kernel_rfl
theorem is_laws_toWorld : funIs Tryz.prog tab m_laws_toWorld Tryz.f16 = true := by kernel_rfl
theorem is_spec_l1In : funIs Tryz.prog tab m_spec_l1In Tryz.f44 = true := by kernel_rfl
theorem is_spec_l3List : funIs Tryz.prog tab m_spec_l3List Tryz.f201 = true := by kernel_rfl
theorem is_spec_SketchOk : funIs Tryz.prog tab m_spec_SketchOk Tryz.f158 = true := by kernel_rfl
theorem is_spec_l6Place : funIs Tryz.prog tab m_spec_l6Place Tryz.f157 = true := by kernel_rfl
theorem is_spec_ItemOk : funIs Tryz.prog tab m_spec_ItemOk Tryz.f94 = true := by kernel_rfl
theorem is_spec_l6Agent : funIs Tryz.prog tab m_spec_l6Agent Tryz.f92 = true := by kernel_rfl
theorem is_spec_SetOk : funIs Tryz.prog tab m_spec_SetOk Tryz.f122 = true := by kernel_rfl
theorem is_spec_l8Below : funIs Tryz.prog tab m_spec_l8Below Tryz.f93 = true := by kernel_rfl
theorem is_spec_AgentOk : funIs Tryz.prog tab m_spec_AgentOk Tryz.f43 = true := by kernel_rfl
theorem is_spec_l11Nums : funIs Tryz.prog tab m_spec_l11Nums Tryz.f148 = true := by kernel_rfl
theorem is_spec_ConfOk : funIs Tryz.prog tab m_spec_ConfOk Tryz.f84 = true := by kernel_rfl
theorem is_spec_SetApart : funIs Tryz.prog tab m_spec_SetApart Tryz.f88 = true := by kernel_rfl
theorem is_spec_l12All : funIs Tryz.prog tab m_spec_l12All Tryz.f87 = true := by kernel_rfl
theorem is_spec_l1Max : funIs Tryz.prog tab m_spec_l1Max Tryz.f56 = true := by kernel_rfl
theorem is_spec_l1Min : funIs Tryz.prog tab m_spec_l1Min Tryz.f156 = true := by kernel_rfl
theorem is_spec_l12Of : funIs Tryz.prog tab m_spec_l12Of Tryz.f91 = true := by kernel_rfl
theorem is_spec_EntryOk : funIs Tryz.prog tab m_spec_EntryOk Tryz.f153 = true := by kernel_rfl
theorem is_spec_RowOk : funIs Tryz.prog tab m_spec_RowOk Tryz.f151 = true := by kernel_rfl
theorem is_spec_l5Copy : funIs Tryz.prog tab m_spec_l5Copy Tryz.f155 = true := by kernel_rfl
theorem is_spec_l5Put : funIs Tryz.prog tab m_spec_l5Put Tryz.f129 = true := by kernel_rfl
theorem is_spec_l5Join : funIs Tryz.prog tab m_spec_l5Join Tryz.f89 = true := by kernel_rfl
theorem is_spec_RowIds : funIs Tryz.prog tab m_spec_RowIds Tryz.f150 = true := by kernel_rfl
theorem is_spec_SetSize : funIs Tryz.prog tab m_spec_SetSize Tryz.f54 = true := by kernel_rfl
theorem is_spec_SeatOk : funIs Tryz.prog tab m_spec_SeatOk Tryz.f149 = true := by kernel_rfl
theorem is_spec_TurnOk : funIs Tryz.prog tab m_spec_TurnOk Tryz.f152 = true := by kernel_rfl
theorem is_spec_l12Parts : funIs Tryz.prog tab m_spec_l12Parts Tryz.f85 = true := by kernel_rfl
theorem is_spec_l1Bit : funIs Tryz.prog tab m_spec_l1Bit Tryz.f200 = true := by kernel_rfl
theorem is_spec_l12Gen : funIs Tryz.prog tab m_spec_l12Gen Tryz.f154 = true := by kernel_rfl
theorem is_spec_l12Root : funIs Tryz.prog tab m_spec_l12Root Tryz.f86 = true := by kernel_rfl
theorem is_spec_l12Taken : funIs Tryz.prog tab m_spec_l12Taken Tryz.f90 = true := by kernel_rfl
theorem is_spec_l5Same : funIs Tryz.prog tab m_spec_l5Same Tryz.f71 = true := by kernel_rfl
theorem is_spec_HouseOk : funIs Tryz.prog tab m_spec_HouseOk Tryz.f42 = true := by kernel_rfl
theorem is_spec_WorldOk : funIs Tryz.prog tab m_spec_WorldOk Tryz.f15 = true := by kernel_rfl
theorem is_impl_greatest : funIs Tryz.prog tab m_impl_greatest Tryz.f63 = true := by kernel_rfl
theorem is_impl_members : funIs Tryz.prog tab m_impl_members Tryz.f66 = true := by kernel_rfl
theorem is_impl_within2_c1 : funIs Tryz.prog tab m_impl_within2_c1 Tryz.f125 = true := by kernel_rfl
theorem is_slices_IndexFunc_Sint : funIs Tryz.prog tab m_slices_IndexFunc_Sint Tryz.f191 = true := by kernel_rfl
theorem is_slices_ContainsFunc_Sint : funIs Tryz.prog tab m_slices_ContainsFunc_Sint Tryz.f124 = true := by kernel_rfl
theorem is_impl_within2 : funIs Tryz.prog tab m_impl_within2 Tryz.f62 = true := by kernel_rfl
theorem is_impl_JudgeKnown : funIs Tryz.prog tab m_impl_JudgeKnown Tryz.f32 = true := by kernel_rfl
theorem is_spec_SetHas : funIs Tryz.prog tab m_spec_SetHas Tryz.f61 = true := by kernel_rfl
theorem is_spec_JudgeKnown : funIs Tryz.prog tab m_spec_JudgeKnown Tryz.f31 = true := by kernel_rfl
theorem is_laws_FnExactJudgeKnown : funIs Tryz.prog tab m_laws_FnExactJudgeKnown Tryz.f10 = true := by kernel_rfl
theorem is_impl_Due : funIs Tryz.prog tab m_impl_Due Tryz.f67 = true := by kernel_rfl
theorem is_impl_JudgeTold : funIs Tryz.prog tab m_impl_JudgeTold Tryz.f34 = true := by kernel_rfl
theorem is_spec_Due : funIs Tryz.prog tab m_spec_Due Tryz.f65 = true := by kernel_rfl
theorem is_spec_l19Sealed : funIs Tryz.prog tab m_spec_l19Sealed Tryz.f64 = true := by kernel_rfl
theorem is_spec_JudgeTold : funIs Tryz.prog tab m_spec_JudgeTold Tryz.f33 = true := by kernel_rfl
theorem is_laws_FnExactJudgeTold : funIs Tryz.prog tab m_laws_FnExactJudgeTold Tryz.f11 = true := by kernel_rfl
theorem fol : Tryz.prog.follows .mixedOrders = true := by kernel_rfl
end Go.Wr
namespace Go.Wr
open Go.Proofs Go.Sort Go.Shelf
def sortRen : Ren := ⟨fun | 6 => 178 | 15 => 208 | 14 => 207 | 28 => 229 | 29 => 230 | 20 => 221 | 21 => 222 | 22 => 223 | 23 => 224 | 24 => 225 | 25 => 226 | 26 => 227 | 27 => 228 | 46 => 233 | 47 => 234 | 48 => 235 | 49 => 236 | 50 => 237 | 57 => 239 | n => n, fun | 22 => 60 | 24 => 92 | 25 => 196 | 3 => 3 | 39 => 225 | 0 => 0 | 53 => 244 | 55 => 246 | 4 => 4 | 46 => 237 | 45 => 236 | 50 => 241 | 5 => 5 | 9 => 9 | 66 => 248 | 70 => 252 | 76 => 255 | 77 => 256 | n => n, fun n => n⟩
theorem sortLaid : SlLaysF0.n6 Tryz.prog sortRen := {
 mixed := by kernel_rfl,
 f6 := ⟨Tryz.f178.name, by decide, Tryz.func178.trans (congrArg some (by kernel_rfl))⟩,
 f14 := ⟨Tryz.f207.name, by decide, Tryz.func207.trans (congrArg some (by kernel_rfl))⟩,
 f15 := Tryz.func208.trans (congrArg some (by kernel_rfl)),
 f20 := ⟨Tryz.f221.name, by decide, Tryz.func221.trans (congrArg some (by kernel_rfl))⟩,
 f21 := ⟨Tryz.f222.name, by decide, Tryz.func222.trans (congrArg some (by kernel_rfl))⟩,
 f22 := ⟨Tryz.f223.name, by decide, Tryz.func223.trans (congrArg some (by kernel_rfl))⟩,
 f23 := ⟨Tryz.f224.name, by decide, Tryz.func224.trans (congrArg some (by kernel_rfl))⟩,
 f24 := ⟨Tryz.f225.name, by decide, Tryz.func225.trans (congrArg some (by kernel_rfl))⟩,
 f25 := ⟨Tryz.f226.name, by decide, Tryz.func226.trans (congrArg some (by kernel_rfl))⟩,
 f26 := ⟨Tryz.f227.name, by decide, Tryz.func227.trans (congrArg some (by kernel_rfl))⟩,
 f27 := ⟨Tryz.f228.name, by decide, Tryz.func228.trans (congrArg some (by kernel_rfl))⟩,
 f28 := Tryz.func229.trans (congrArg some (by kernel_rfl)),
 f29 := Tryz.func230.trans (congrArg some (by kernel_rfl)),
 f46 := ⟨Tryz.f233.name, by decide, Tryz.func233.trans (congrArg some (by kernel_rfl))⟩,
 f47 := Tryz.func234.trans (congrArg some (by kernel_rfl)),
 f48 := Tryz.func235.trans (congrArg some (by kernel_rfl)),
 f49 := ⟨Tryz.f236.name, by decide, Tryz.func236.trans (congrArg some (by kernel_rfl))⟩,
 f50 := ⟨Tryz.f237.name, by decide, Tryz.func237.trans (congrArg some (by kernel_rfl))⟩,
 f57 := ⟨Tryz.f239.name, by decide, Tryz.func239.trans (congrArg some (by kernel_rfl))⟩,
 t0 := Tryz.underlying0,
 a0 := Tryz.isAgg0,
 z0 := Tryz.sizeOf0,
 v0 := Tryz.zeroValue0,
 t3 := Tryz.underlying3,
 a3 := Tryz.isAgg3,
 z3 := Tryz.sizeOf3,
 v3 := Tryz.zeroValue3,
 t4 := Tryz.underlying4,
 a4 := Tryz.isAgg4,
 z4 := Tryz.sizeOf4,
 v4 := Tryz.zeroValue4,
 t5 := Tryz.underlying5,
 a5 := Tryz.isAgg5,
 z5 := Tryz.sizeOf5,
 v5 := Tryz.zeroValue5,
 t9 := Tryz.underlying9,
 a9 := Tryz.isAgg9,
 z9 := Tryz.sizeOf9,
 v9 := Tryz.zeroValue9,
 t22 := Tryz.underlying60,
 a22 := Tryz.isAgg60,
 z22 := Tryz.sizeOf60,
 v22 := Tryz.zeroValue60,
 t25 := Tryz.underlying196,
 a25 := Tryz.isAgg196,
 z25 := Tryz.sizeOf196,
 v25 := Tryz.zeroValue196,
 t39 := Tryz.underlying225,
 a39 := Tryz.isAgg225,
 z39 := Tryz.sizeOf225,
 v39 := Tryz.zeroValue225,
 t45 := Tryz.underlying236,
 a45 := Tryz.isAgg236,
 z45 := Tryz.sizeOf236,
 v45 := Tryz.zeroValue236,
 t46 := Tryz.underlying237,
 a46 := Tryz.isAgg237,
 z46 := Tryz.sizeOf237,
 v46 := Tryz.zeroValue237,
 t50 := Tryz.underlying241,
 a50 := Tryz.isAgg241,
 z50 := Tryz.sizeOf241,
 v50 := Tryz.zeroValue241,
 t53 := Tryz.underlying244,
 a53 := Tryz.isAgg244,
 z53 := Tryz.sizeOf244,
 v53 := Tryz.zeroValue244,
 t55 := Tryz.underlying246,
 a55 := Tryz.isAgg246,
 z55 := Tryz.sizeOf246,
 v55 := Tryz.zeroValue246,
 t66 := Tryz.underlying248,
 a66 := Tryz.isAgg248,
 z66 := Tryz.sizeOf248,
 v66 := Tryz.zeroValue248,
 t70 := Tryz.underlying252,
 a70 := Tryz.isAgg252,
 z70 := Tryz.sizeOf252,
 v70 := Tryz.zeroValue252,
 t76 := Tryz.underlying255,
 a76 := Tryz.isAgg255,
 z76 := Tryz.sizeOf255,
 v76 := Tryz.zeroValue255,
 t77 := Tryz.underlying256,
 a77 := Tryz.isAgg256,
 z77 := Tryz.sizeOf256,
 v77 := Tryz.zeroValue256 }
theorem cmp_int (x y : Int) (W : World) : Calls Tryz.prog 180 #[.int .i64 x, .int .i64 y] W fun e w' => e = .returned (.int .i64 (Lib.compareInt x y)) /\ w' = W := by
 go_enter Tryz.func180, Tryz.ntmps180
 go_wp2
 all_goals
  go_ret
  refine ⟨?_, rfl⟩
 ·rw [Lib.compareInt, if_pos (by omega)]; rfl
 ·rw [Lib.compareInt, if_neg (by omega), if_pos (by omega)]; rfl
 ·rw [Lib.compareInt, if_neg (by omega), if_neg (by omega)]; rfl
theorem cmp_go (x y : Int × Int) (W : World) : Calls Tryz.prog 179 #[.agg #[.int .i64 x.1, .int .i64 x.2], .agg #[.int .i64 y.1, .int .i64 y.2]] W fun e w' => e = .returned (.int .i64 (Lib.compareInt x.1 y.1)) /\ ∃ q os', w' = grow (W.drewN q) os' := by
 have hcon := fun W' => cmp_int x.1 y.1 W'
 generalize Lib.compareInt x.1 y.1 = r at hcon ⊢
 go_enter Tryz.func179, Tryz.ntmps179
 go_wp2_with (go_at_call 180; refine (hcon _).mono ?_; rintro e w' ⟨rfl, rfl⟩)
 go_ret
 exact ⟨rfl, 0, _, by rw [alloc_eq_grow, alloc_eq_grow, grow_grow]; rfl⟩
theorem ok_slices_SortFunc_Simpl_Span : FunOk Tryz.prog tab g_slices_SortFunc_Simpl_Span F_slices_SortFunc_Simpl_Span := by
 unfold F_slices_SortFunc_Simpl_Span; rw [lock_eq]
 exact sort_ok sortLaid Tryz.isAgg92 Tryz.sizeOf92 rfl (enters_of Tryz.func179 (by kernel_rfl) rfl) cmp_go
end Go.Wr

