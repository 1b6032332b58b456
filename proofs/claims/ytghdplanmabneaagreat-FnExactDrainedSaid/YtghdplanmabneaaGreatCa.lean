/-
  What is proved: the law FnExactDrained returns true for every input and leaves its arguments as they were. No condition.
-/
import Derived.Test.YtghdplanmabneaaGreatMa
import Derived.Test.YtghdplanmabneaaGreatProg
import Derived.KernelRfl
import Derived.Test.YtghdplanmabneaaGreatRe
set_option linter.unusedVariables false
set_option linter.unusedSimpArgs false
namespace Go.Wr
open Go.Proofs
def tab : Nat → FuncId := fun g => [93, 64, 103, 122, 102, 63, 61, 120, 140, 129, 121, 100, 101, 59, 104, 125, 107, 106, 105, 66, 62, 118, 92, 95, 97, 119, 96, 94, 98, 99, 58, 60, 27, 65, 26, 8, 67, 28, 127, 110, 126, 108, 71, 32, 72, 33, 109, 69, 30, 68, 29, 70, 31, 9, 36, 12, 111, 75, 73, 40, 16, 41, 17, 74, 38, 14, 37, 13, 39, 15, 5, 52, 20, 117, 91, 116, 89, 56, 24, 57, 25, 90, 54, 22, 53, 21, 55, 23, 7, 76, 77, 42, 84, 46, 45, 87, 88, 50, 128, 115, 114, 83, 80, 85, 86, 47, 79, 81, 112, 78, 113, 82, 43, 51, 19, 44, 49, 48, 18, 6, 3, 35, 11, 34, 10, 4].getD g 0
theorem is_impl_within : funIs Tryz.prog tab m_impl_within Tryz.f93 = true := by kernel_rfl
theorem is_impl_IdOf : funIs Tryz.prog tab m_impl_IdOf Tryz.f64 = true := by kernel_rfl
theorem is_impl_SetHas_c1 : funIs Tryz.prog tab m_impl_SetHas_c1 Tryz.f103 = true := by kernel_rfl
theorem is_slices_IndexFunc_Simpl_Span : funIs Tryz.prog tab m_slices_IndexFunc_Simpl_Span Tryz.f122 = true := by kernel_rfl
theorem is_slices_ContainsFunc_Simpl_Span : funIs Tryz.prog tab m_slices_ContainsFunc_Simpl_Span Tryz.f102 = true := by kernel_rfl
theorem is_impl_SetHas : funIs Tryz.prog tab m_impl_SetHas Tryz.f63 = true := by kernel_rfl
theorem is_impl_added : funIs Tryz.prog tab m_impl_added Tryz.f61 = true := by kernel_rfl
theorem is_impl_SetOk : funIs Tryz.prog tab m_impl_SetOk Tryz.f120 = true := by kernel_rfl
theorem is_impl_copyInts : funIs Tryz.prog tab m_impl_copyInts Tryz.f140 = true := by kernel_rfl
theorem is_impl_counts : funIs Tryz.prog tab m_impl_counts Tryz.f129 = true := by kernel_rfl
theorem is_impl_SketchOk : funIs Tryz.prog tab m_impl_SketchOk Tryz.f121 = true := by kernel_rfl
theorem is_impl_EntryOk : funIs Tryz.prog tab m_impl_EntryOk Tryz.f100 = true := by kernel_rfl
theorem is_impl_SetApart : funIs Tryz.prog tab m_impl_SetApart Tryz.f101 = true := by kernel_rfl
theorem is_impl_apart : funIs Tryz.prog tab m_impl_apart Tryz.f59 = true := by kernel_rfl
theorem is_impl_copySet : funIs Tryz.prog tab m_impl_copySet Tryz.f104 = true := by kernel_rfl
theorem is_cmp_isNaN_int : funIs Tryz.prog tab m_cmp_isNaN_int Tryz.f125 = true := by kernel_rfl
theorem is_cmp_Compare_int : funIs Tryz.prog tab m_cmp_Compare_int Tryz.f107 = true := by kernel_rfl
theorem is_impl_union_c1 : funIs Tryz.prog tab m_impl_union_c1 Tryz.f106 = true := by kernel_rfl
theorem is_impl_union : funIs Tryz.prog tab m_impl_union Tryz.f66 = true := by kernel_rfl
theorem is_impl_idsOf : funIs Tryz.prog tab m_impl_idsOf Tryz.f62 = true := by kernel_rfl
theorem is_impl_allWithin : funIs Tryz.prog tab m_impl_allWithin Tryz.f118 = true := by kernel_rfl
theorem is_impl_ConfOk : funIs Tryz.prog tab m_impl_ConfOk Tryz.f92 = true := by kernel_rfl
theorem is_impl_RowOk : funIs Tryz.prog tab m_impl_RowOk Tryz.f95 = true := by kernel_rfl
theorem is_impl_RowIds : funIs Tryz.prog tab m_impl_RowIds Tryz.f97 = true := by kernel_rfl
theorem is_impl_SetSize : funIs Tryz.prog tab m_impl_SetSize Tryz.f119 = true := by kernel_rfl
theorem is_impl_allIn : funIs Tryz.prog tab m_impl_allIn Tryz.f96 = true := by kernel_rfl
theorem is_impl_SeatOk : funIs Tryz.prog tab m_impl_SeatOk Tryz.f94 = true := by kernel_rfl
theorem is_impl_TurnOk : funIs Tryz.prog tab m_impl_TurnOk Tryz.f98 = true := by kernel_rfl
theorem is_impl_ahead : funIs Tryz.prog tab m_impl_ahead Tryz.f99 = true := by kernel_rfl
theorem is_impl_partsOk : funIs Tryz.prog tab m_impl_partsOk Tryz.f58 = true := by kernel_rfl
theorem is_impl_rowEntries : funIs Tryz.prog tab m_impl_rowEntries Tryz.f60 = true := by kernel_rfl
theorem is_impl_told : funIs Tryz.prog tab m_impl_told Tryz.f27 = true := by kernel_rfl
theorem is_slices_Equal_Simpl_Span : funIs Tryz.prog tab m_slices_Equal_Simpl_Span Tryz.f65 = true := by kernel_rfl
theorem is_impl_HouseOk : funIs Tryz.prog tab m_impl_HouseOk Tryz.f26 = true := by kernel_rfl
theorem is_impl_Told : funIs Tryz.prog tab m_impl_Told Tryz.f8 = true := by kernel_rfl
theorem is_laws_eqIntS : funIs Tryz.prog tab m_laws_eqIntS Tryz.f67 = true := by kernel_rfl
theorem is_laws_eqConf : funIs Tryz.prog tab m_laws_eqConf Tryz.f28 = true := by kernel_rfl
theorem is_laws_eqIntSS : funIs Tryz.prog tab m_laws_eqIntSS Tryz.f127 = true := by kernel_rfl
theorem is_laws_eqSketch : funIs Tryz.prog tab m_laws_eqSketch Tryz.f110 = true := by kernel_rfl
theorem is_laws_eqSpan : funIs Tryz.prog tab m_laws_eqSpan Tryz.f126 = true := by kernel_rfl
theorem is_laws_eqSpanS : funIs Tryz.prog tab m_laws_eqSpanS Tryz.f108 = true := by kernel_rfl
theorem is_laws_eqEntry : funIs Tryz.prog tab m_laws_eqEntry Tryz.f71 = true := by kernel_rfl
theorem is_laws_eqEntryS : funIs Tryz.prog tab m_laws_eqEntryS Tryz.f32 = true := by kernel_rfl
theorem is_laws_eqOut : funIs Tryz.prog tab m_laws_eqOut Tryz.f72 = true := by kernel_rfl
theorem is_laws_eqOutS : funIs Tryz.prog tab m_laws_eqOutS Tryz.f33 = true := by kernel_rfl
theorem is_laws_eqRow : funIs Tryz.prog tab m_laws_eqRow Tryz.f109 = true := by kernel_rfl
theorem is_laws_eqRowS : funIs Tryz.prog tab m_laws_eqRowS Tryz.f69 = true := by kernel_rfl
theorem is_laws_eqRowSS : funIs Tryz.prog tab m_laws_eqRowSS Tryz.f30 = true := by kernel_rfl
theorem is_laws_eqSeat : funIs Tryz.prog tab m_laws_eqSeat Tryz.f68 = true := by kernel_rfl
theorem is_laws_eqSeatS : funIs Tryz.prog tab m_laws_eqSeatS Tryz.f29 = true := by kernel_rfl
theorem is_laws_eqTurn : funIs Tryz.prog tab m_laws_eqTurn Tryz.f70 = true := by kernel_rfl
theorem is_laws_eqTurnS : funIs Tryz.prog tab m_laws_eqTurnS Tryz.f31 = true := by kernel_rfl
theorem is_laws_eqHouse : funIs Tryz.prog tab m_laws_eqHouse Tryz.f9 = true := by kernel_rfl
theorem is_laws_szIntS : funIs Tryz.prog tab m_laws_szIntS Tryz.f36 = true := by kernel_rfl
theorem is_laws_szConf : funIs Tryz.prog tab m_laws_szConf Tryz.f12 = true := by kernel_rfl
theorem is_laws_szIntSS : funIs Tryz.prog tab m_laws_szIntSS Tryz.f111 = true := by kernel_rfl
theorem is_laws_szSketch : funIs Tryz.prog tab m_laws_szSketch Tryz.f75 = true := by kernel_rfl
theorem is_laws_szSpanS : funIs Tryz.prog tab m_laws_szSpanS Tryz.f73 = true := by kernel_rfl
theorem is_laws_szEntry : funIs Tryz.prog tab m_laws_szEntry Tryz.f40 = true := by kernel_rfl
theorem is_laws_szEntryS : funIs Tryz.prog tab m_laws_szEntryS Tryz.f16 = true := by kernel_rfl
theorem is_laws_szOut : funIs Tryz.prog tab m_laws_szOut Tryz.f41 = true := by kernel_rfl
theorem is_laws_szOutS : funIs Tryz.prog tab m_laws_szOutS Tryz.f17 = true := by kernel_rfl
theorem is_laws_szRow : funIs Tryz.prog tab m_laws_szRow Tryz.f74 = true := by kernel_rfl
theorem is_laws_szRowS : funIs Tryz.prog tab m_laws_szRowS Tryz.f38 = true := by kernel_rfl
theorem is_laws_szRowSS : funIs Tryz.prog tab m_laws_szRowSS Tryz.f14 = true := by kernel_rfl
theorem is_laws_szSeat : funIs Tryz.prog tab m_laws_szSeat Tryz.f37 = true := by kernel_rfl
theorem is_laws_szSeatS : funIs Tryz.prog tab m_laws_szSeatS Tryz.f13 = true := by kernel_rfl
theorem is_laws_szTurn : funIs Tryz.prog tab m_laws_szTurn Tryz.f39 = true := by kernel_rfl
theorem is_laws_szTurnS : funIs Tryz.prog tab m_laws_szTurnS Tryz.f15 = true := by kernel_rfl
theorem is_laws_szHouse : funIs Tryz.prog tab m_laws_szHouse Tryz.f5 = true := by kernel_rfl
theorem is_laws_toIntS : funIs Tryz.prog tab m_laws_toIntS Tryz.f52 = true := by kernel_rfl
theorem is_laws_toConf : funIs Tryz.prog tab m_laws_toConf Tryz.f20 = true := by kernel_rfl
theorem is_laws_toIntSS : funIs Tryz.prog tab m_laws_toIntSS Tryz.f117 = true := by kernel_rfl
theorem is_laws_toSketch : funIs Tryz.prog tab m_laws_toSketch Tryz.f91 = true := by kernel_rfl
theorem is_laws_toSpan : funIs Tryz.prog tab m_laws_toSpan Tryz.f116 = true := by kernel_rfl
theorem is_laws_toSpanS : funIs Tryz.prog tab m_laws_toSpanS Tryz.f89 = true := by kernel_rfl
theorem is_laws_toEntry : funIs Tryz.prog tab m_laws_toEntry Tryz.f56 = true := by kernel_rfl
theorem is_laws_toEntryS : funIs Tryz.prog tab m_laws_toEntryS Tryz.f24 = true := by kernel_rfl
theorem is_laws_toOut : funIs Tryz.prog tab m_laws_toOut Tryz.f57 = true := by kernel_rfl
theorem is_laws_toOutS : funIs Tryz.prog tab m_laws_toOutS Tryz.f25 = true := by kernel_rfl
theorem is_laws_toRow : funIs Tryz.prog tab m_laws_toRow Tryz.f90 = true := by kernel_rfl
theorem is_laws_toRowS : funIs Tryz.prog tab m_laws_toRowS Tryz.f54 = true := by kernel_rfl
theorem is_laws_toRowSS : funIs Tryz.prog tab m_laws_toRowSS Tryz.f22 = true := by kernel_rfl
theorem is_laws_toSeat : funIs Tryz.prog tab m_laws_toSeat Tryz.f53 = true := by kernel_rfl
theorem is_laws_toSeatS : funIs Tryz.prog tab m_laws_toSeatS Tryz.f21 = true := by kernel_rfl
theorem is_laws_toTurn : funIs Tryz.prog tab m_laws_toTurn Tryz.f55 = true := by kernel_rfl
theorem is_laws_toTurnS : funIs Tryz.prog tab m_laws_toTurnS Tryz.f23 = true := by kernel_rfl
theorem is_laws_toHouse : funIs Tryz.prog tab m_laws_toHouse Tryz.f7 = true := by kernel_rfl
theorem is_spec_l1In : funIs Tryz.prog tab m_spec_l1In Tryz.f76 = true := by kernel_rfl
theorem is_spec_l11Nums : funIs Tryz.prog tab m_spec_l11Nums Tryz.f77 = true := by kernel_rfl
theorem is_spec_ConfOk : funIs Tryz.prog tab m_spec_ConfOk Tryz.f42 = true := by kernel_rfl
theorem is_spec_SetOk : funIs Tryz.prog tab m_spec_SetOk Tryz.f84 = true := by kernel_rfl
theorem is_spec_SetApart : funIs Tryz.prog tab m_spec_SetApart Tryz.f46 = true := by kernel_rfl
theorem is_spec_l12All : funIs Tryz.prog tab m_spec_l12All Tryz.f45 = true := by kernel_rfl
theorem is_spec_l1Max : funIs Tryz.prog tab m_spec_l1Max Tryz.f87 = true := by kernel_rfl
theorem is_spec_l1Min : funIs Tryz.prog tab m_spec_l1Min Tryz.f88 = true := by kernel_rfl
theorem is_spec_l12Of : funIs Tryz.prog tab m_spec_l12Of Tryz.f50 = true := by kernel_rfl
theorem is_spec_l3List : funIs Tryz.prog tab m_spec_l3List Tryz.f128 = true := by kernel_rfl
theorem is_spec_SketchOk : funIs Tryz.prog tab m_spec_SketchOk Tryz.f115 = true := by kernel_rfl
theorem is_spec_l6Place : funIs Tryz.prog tab m_spec_l6Place Tryz.f114 = true := by kernel_rfl
theorem is_spec_EntryOk : funIs Tryz.prog tab m_spec_EntryOk Tryz.f83 = true := by kernel_rfl
theorem is_spec_RowOk : funIs Tryz.prog tab m_spec_RowOk Tryz.f80 = true := by kernel_rfl
theorem is_spec_l5Copy : funIs Tryz.prog tab m_spec_l5Copy Tryz.f85 = true := by kernel_rfl
theorem is_spec_l5Put : funIs Tryz.prog tab m_spec_l5Put Tryz.f86 = true := by kernel_rfl
theorem is_spec_l5Join : funIs Tryz.prog tab m_spec_l5Join Tryz.f47 = true := by kernel_rfl
theorem is_spec_RowIds : funIs Tryz.prog tab m_spec_RowIds Tryz.f79 = true := by kernel_rfl
theorem is_spec_SetSize : funIs Tryz.prog tab m_spec_SetSize Tryz.f81 = true := by kernel_rfl
theorem is_spec_l8Below : funIs Tryz.prog tab m_spec_l8Below Tryz.f112 = true := by kernel_rfl
theorem is_spec_SeatOk : funIs Tryz.prog tab m_spec_SeatOk Tryz.f78 = true := by kernel_rfl
theorem is_spec_l6Agent : funIs Tryz.prog tab m_spec_l6Agent Tryz.f113 = true := by kernel_rfl
theorem is_spec_TurnOk : funIs Tryz.prog tab m_spec_TurnOk Tryz.f82 = true := by kernel_rfl
theorem is_spec_l12Parts : funIs Tryz.prog tab m_spec_l12Parts Tryz.f43 = true := by kernel_rfl
theorem is_spec_l1Bit : funIs Tryz.prog tab m_spec_l1Bit Tryz.f51 = true := by kernel_rfl
theorem is_spec_l12Gen : funIs Tryz.prog tab m_spec_l12Gen Tryz.f19 = true := by kernel_rfl
theorem is_spec_l12Root : funIs Tryz.prog tab m_spec_l12Root Tryz.f44 = true := by kernel_rfl
theorem is_spec_l12Taken : funIs Tryz.prog tab m_spec_l12Taken Tryz.f49 = true := by kernel_rfl
theorem is_spec_l5Same : funIs Tryz.prog tab m_spec_l5Same Tryz.f48 = true := by kernel_rfl
theorem is_spec_HouseOk : funIs Tryz.prog tab m_spec_HouseOk Tryz.f18 = true := by kernel_rfl
theorem is_spec_Told : funIs Tryz.prog tab m_spec_Told Tryz.f6 = true := by kernel_rfl
theorem is_laws_FnExactTold : funIs Tryz.prog tab m_laws_FnExactTold Tryz.f3 = true := by kernel_rfl
theorem is_impl_Items : funIs Tryz.prog tab m_impl_Items Tryz.f35 = true := by kernel_rfl
theorem is_impl_Drained : funIs Tryz.prog tab m_impl_Drained Tryz.f11 = true := by kernel_rfl
theorem is_spec_Items : funIs Tryz.prog tab m_spec_Items Tryz.f34 = true := by kernel_rfl
theorem is_spec_Drained : funIs Tryz.prog tab m_spec_Drained Tryz.f10 = true := by kernel_rfl
theorem is_laws_FnExactDrained : funIs Tryz.prog tab m_laws_FnExactDrained Tryz.f4 = true := by kernel_rfl
theorem fol : Tryz.prog.follows .mixedOrders = true := by kernel_rfl
end Go.Wr

namespace Go.Wr
open Go.Proofs Go.Sort Go.Shelf
def sortRen : Ren := ⟨fun | 6 => 105 | 15 => 124 | 14 => 123 | 28 => 138 | 29 => 139 | 20 => 130 | 21 => 131 | 22 => 132 | 23 => 133 | 24 => 134 | 25 => 135 | 26 => 136 | 27 => 137 | 46 => 141 | 47 => 142 | 48 => 143 | 49 => 144 | 50 => 145 | 57 => 146 | n => n, fun | 22 => 87 | 24 => 114 | 25 => 146 | 3 => 3 | 39 => 160 | 0 => 0 | 53 => 174 | 55 => 176 | 4 => 4 | 46 => 167 | 45 => 166 | 50 => 171 | 5 => 5 | 9 => 9 | 66 => 177 | 70 => 181 | 76 => 183 | 77 => 184 | n => n, fun n => n⟩
theorem sortLaid : SlLaysF0.n6 Tryz.prog sortRen := {
  mixed := by kernel_rfl,
  f6 := ⟨Tryz.f105.name, by decide, Tryz.func105.trans (congrArg some (by kernel_rfl))⟩,
  f14 := ⟨Tryz.f123.name, by decide, Tryz.func123.trans (congrArg some (by kernel_rfl))⟩,
  f15 := Tryz.func124.trans (congrArg some (by kernel_rfl)),
  f20 := ⟨Tryz.f130.name, by decide, Tryz.func130.trans (congrArg some (by kernel_rfl))⟩,
  f21 := ⟨Tryz.f131.name, by decide, Tryz.func131.trans (congrArg some (by kernel_rfl))⟩,
  f22 := ⟨Tryz.f132.name, by decide, Tryz.func132.trans (congrArg some (by kernel_rfl))⟩,
  f23 := ⟨Tryz.f133.name, by decide, Tryz.func133.trans (congrArg some (by kernel_rfl))⟩,
  f24 := ⟨Tryz.f134.name, by decide, Tryz.func134.trans (congrArg some (by kernel_rfl))⟩,
  f25 := ⟨Tryz.f135.name, by decide, Tryz.func135.trans (congrArg some (by kernel_rfl))⟩,
  f26 := ⟨Tryz.f136.name, by decide, Tryz.func136.trans (congrArg some (by kernel_rfl))⟩,
  f27 := ⟨Tryz.f137.name, by decide, Tryz.func137.trans (congrArg some (by kernel_rfl))⟩,
  f28 := Tryz.func138.trans (congrArg some (by kernel_rfl)),
  f29 := Tryz.func139.trans (congrArg some (by kernel_rfl)),
  f46 := ⟨Tryz.f141.name, by decide, Tryz.func141.trans (congrArg some (by kernel_rfl))⟩,
  f47 := Tryz.func142.trans (congrArg some (by kernel_rfl)),
  f48 := Tryz.func143.trans (congrArg some (by kernel_rfl)),
  f49 := ⟨Tryz.f144.name, by decide, Tryz.func144.trans (congrArg some (by kernel_rfl))⟩,
  f50 := ⟨Tryz.f145.name, by decide, Tryz.func145.trans (congrArg some (by kernel_rfl))⟩,
  f57 := ⟨Tryz.f146.name, by decide, Tryz.func146.trans (congrArg some (by kernel_rfl))⟩,
  t0 := Tryz.underlying0,
  a0 := Tryz.isAgg0,
  z0 := Tryz.sizeOf0,
  v0 := Tryz.zeroValue0,
  t3 := Tryz.underlying3,
  a3 := Tryz.isAgg3,
  z3 := Tryz.sizeOf3,
  v3 := Tryz.zeroValue3,
  t4 := Tryz.underlying4,
  a4 := Tryz.isAgg4,
  z4 := Tryz.sizeOf4,
  v4 := Tryz.zeroValue4,
  t5 := Tryz.underlying5,
  a5 := Tryz.isAgg5,
  z5 := Tryz.sizeOf5,
  v5 := Tryz.zeroValue5,
  t9 := Tryz.underlying9,
  a9 := Tryz.isAgg9,
  z9 := Tryz.sizeOf9,
  v9 := Tryz.zeroValue9,
  t22 := Tryz.underlying87,
  a22 := Tryz.isAgg87,
  z22 := Tryz.sizeOf87,
  v22 := Tryz.zeroValue87,
  t25 := Tryz.underlying146,
  a25 := Tryz.isAgg146,
  z25 := Tryz.sizeOf146,
  v25 := Tryz.zeroValue146,
  t39 := Tryz.underlying160,
  a39 := Tryz.isAgg160,
  z39 := Tryz.sizeOf160,
  v39 := Tryz.zeroValue160,
  t45 := Tryz.underlying166,
  a45 := Tryz.isAgg166,
  z45 := Tryz.sizeOf166,
  v45 := Tryz.zeroValue166,
  t46 := Tryz.underlying167,
  a46 := Tryz.isAgg167,
  z46 := Tryz.sizeOf167,
  v46 := Tryz.zeroValue167,
  t50 := Tryz.underlying171,
  a50 := Tryz.isAgg171,
  z50 := Tryz.sizeOf171,
  v50 := Tryz.zeroValue171,
  t53 := Tryz.underlying174,
  a53 := Tryz.isAgg174,
  z53 := Tryz.sizeOf174,
  v53 := Tryz.zeroValue174,
  t55 := Tryz.underlying176,
  a55 := Tryz.isAgg176,
  z55 := Tryz.sizeOf176,
  v55 := Tryz.zeroValue176,
  t66 := Tryz.underlying177,
  a66 := Tryz.isAgg177,
  z66 := Tryz.sizeOf177,
  v66 := Tryz.zeroValue177,
  t70 := Tryz.underlying181,
  a70 := Tryz.isAgg181,
  z70 := Tryz.sizeOf181,
  v70 := Tryz.zeroValue181,
  t76 := Tryz.underlying183,
  a76 := Tryz.isAgg183,
  z76 := Tryz.sizeOf183,
  v76 := Tryz.zeroValue183,
  t77 := Tryz.underlying184,
  a77 := Tryz.isAgg184,
  z77 := Tryz.sizeOf184,
  v77 := Tryz.zeroValue184 }

theorem cmp_int (x y : Int) (W : World) : Calls Tryz.prog 107 #[.int .i64 x, .int .i64 y] W fun e w' => e = .returned (.int .i64 (Lib.compareInt x y)) ∧ w' = W := by
  go_enter Tryz.func107, Tryz.ntmps107
  go_wp2
  all_goals
    go_ret
    refine ⟨?_, rfl⟩
  · rw [Lib.compareInt, if_pos (by omega)]; rfl
  · rw [Lib.compareInt, if_neg (by omega), if_pos (by omega)]; rfl
  · rw [Lib.compareInt, if_neg (by omega), if_neg (by omega)]; rfl

theorem cmp_go (x y : Int × Int) (W : World) : Calls Tryz.prog 106 #[.agg #[.int .i64 x.1, .int .i64 x.2], .agg #[.int .i64 y.1, .int .i64 y.2]] W fun e w' => e = .returned (.int .i64 (Lib.compareInt x.1 y.1)) ∧ ∃ q os', w' = grow (W.drewN q) os' := by
  have hcon := fun W' => cmp_int x.1 y.1 W'
  generalize Lib.compareInt x.1 y.1 = r at hcon ⊢
  go_enter Tryz.func106, Tryz.ntmps106
  go_wp2_with (go_at_call 107; refine (hcon _).mono ?_; rintro e w' ⟨rfl, rfl⟩)
  go_ret
  exact ⟨rfl, 0, _, by rw [alloc_eq_grow, alloc_eq_grow, grow_grow]; rfl⟩

theorem ok_slices_SortFunc_Simpl_Span : FunOk Tryz.prog tab g_slices_SortFunc_Simpl_Span F_slices_SortFunc_Simpl_Span := by
  unfold F_slices_SortFunc_Simpl_Span; rw [lock_eq]
  exact sort_ok sortLaid Tryz.isAgg114 Tryz.sizeOf114 rfl (enters_of Tryz.func106 (by kernel_rfl) rfl) cmp_go
end Go.Wr

