/-
  What is proved: the law FnExactWorldSame returns true for every input and leaves its arguments as they were. No condition.
-/
import Derived.Test.YtidfoaomjdjngaaGreatRc
set_option linter.unusedVariables false
set_option linter.unusedSimpArgs false
namespace Go.Wr
noncomputable section
abbrev g_slices_Equal_Sint : Nat := 0
abbrev g_impl_confSame : Nat := 1
abbrev g_slices_EqualFunc_SSint : Nat := 2
abbrev g_impl_SketchSame : Nat := 3
abbrev g_slices_Equal_Simpl_Span : Nat := 4
abbrev g_impl_EntrySame : Nat := 5
abbrev g_slices_EqualFunc_Simpl_Entry : Nat := 6
abbrev g_impl_RowSame : Nat := 7
abbrev g_slices_EqualFunc_Simpl_Row : Nat := 8
abbrev g_impl_HouseSame_c1 : Nat := 9
abbrev g_slices_EqualFunc_SSimpl_Row : Nat := 10
abbrev g_impl_outSame : Nat := 11
abbrev g_slices_EqualFunc_Simpl_Out : Nat := 12
abbrev g_impl_seatSame : Nat := 13
abbrev g_slices_EqualFunc_Simpl_Seat : Nat := 14
abbrev g_impl_turnSame : Nat := 15
abbrev g_slices_EqualFunc_Simpl_Turn : Nat := 16
abbrev g_impl_HouseSame : Nat := 17
abbrev g_impl_itemSame : Nat := 18
abbrev g_slices_EqualFunc_Simpl_Item : Nat := 19
abbrev g_impl_agentSame : Nat := 20
abbrev g_slices_EqualFunc_Simpl_Agent : Nat := 21
abbrev g_bytes_Equal : Nat := 22
abbrev g_impl_packSame : Nat := 23
abbrev g_slices_EqualFunc_Simpl_Pack : Nat := 24
abbrev g_impl_WorldSame : Nat := 25
abbrev g_laws_eqIntS : Nat := 26
abbrev g_laws_eqIntSS : Nat := 27
abbrev g_laws_eqSketch : Nat := 28
abbrev g_laws_eqItem : Nat := 29
abbrev g_laws_eqItemS : Nat := 30
abbrev g_laws_eqSpan : Nat := 31
abbrev g_laws_eqSpanS : Nat := 32
abbrev g_laws_eqAgent : Nat := 33
abbrev g_laws_eqAgentS : Nat := 34
abbrev g_laws_eqConf : Nat := 35
abbrev g_laws_eqEntry : Nat := 36
abbrev g_laws_eqEntryS : Nat := 37
abbrev g_laws_eqOut : Nat := 38
abbrev g_laws_eqOutS : Nat := 39
abbrev g_laws_eqRow : Nat := 40
abbrev g_laws_eqRowS : Nat := 41
abbrev g_laws_eqRowSS : Nat := 42
abbrev g_laws_eqSeat : Nat := 43
abbrev g_laws_eqSeatS : Nat := 44
abbrev g_laws_eqTurn : Nat := 45
abbrev g_laws_eqTurnS : Nat := 46
abbrev g_laws_eqHouse : Nat := 47
abbrev g_laws_eqByteS : Nat := 48
abbrev g_laws_eqPack : Nat := 49
abbrev g_laws_eqPackS : Nat := 50
abbrev g_laws_eqWorld : Nat := 51
abbrev g_laws_szIntS : Nat := 52
abbrev g_laws_szIntSS : Nat := 53
abbrev g_laws_szSketch : Nat := 54
abbrev g_laws_szItem : Nat := 55
abbrev g_laws_szItemS : Nat := 56
abbrev g_laws_szSpanS : Nat := 57
abbrev g_laws_szAgent : Nat := 58
abbrev g_laws_szAgentS : Nat := 59
abbrev g_laws_szConf : Nat := 60
abbrev g_laws_szEntry : Nat := 61
abbrev g_laws_szEntryS : Nat := 62
abbrev g_laws_szOut : Nat := 63
abbrev g_laws_szOutS : Nat := 64
abbrev g_laws_szRow : Nat := 65
abbrev g_laws_szRowS : Nat := 66
abbrev g_laws_szRowSS : Nat := 67
abbrev g_laws_szSeat : Nat := 68
abbrev g_laws_szSeatS : Nat := 69
abbrev g_laws_szTurn : Nat := 70
abbrev g_laws_szTurnS : Nat := 71
abbrev g_laws_szHouse : Nat := 72
abbrev g_laws_szByteS : Nat := 73
abbrev g_laws_szPack : Nat := 74
abbrev g_laws_szPackS : Nat := 75
abbrev g_laws_szWorld : Nat := 76
abbrev g_laws_toIntS : Nat := 77
abbrev g_laws_toIntSS : Nat := 78
abbrev g_laws_toSketch : Nat := 79
abbrev g_laws_toItem : Nat := 80
abbrev g_laws_toItemS : Nat := 81
abbrev g_laws_toSpan : Nat := 82
abbrev g_laws_toSpanS : Nat := 83
abbrev g_laws_toAgent : Nat := 84
abbrev g_laws_toAgentS : Nat := 85
abbrev g_laws_toConf : Nat := 86
abbrev g_laws_toEntry : Nat := 87
abbrev g_laws_toEntryS : Nat := 88
abbrev g_laws_toOut : Nat := 89
abbrev g_laws_toOutS : Nat := 90
abbrev g_laws_toRow : Nat := 91
abbrev g_laws_toRowS : Nat := 92
abbrev g_laws_toRowSS : Nat := 93
abbrev g_laws_toSeat : Nat := 94
abbrev g_laws_toSeatS : Nat := 95
abbrev g_laws_toTurn : Nat := 96
abbrev g_laws_toTurnS : Nat := 97
abbrev g_laws_toHouse : Nat := 98
abbrev g_laws_toByteS : Nat := 99
abbrev g_laws_toPack : Nat := 100
abbrev g_laws_toPackS : Nat := 101
abbrev g_laws_toWorld : Nat := 102
abbrev g_spec_l1Same : Nat := 103
abbrev g_spec_SketchSame : Nat := 104
abbrev g_spec_l5Same : Nat := 105
abbrev g_spec_EntrySame : Nat := 106
abbrev g_spec_l10Entries : Nat := 107
abbrev g_spec_l12Confs : Nat := 108
abbrev g_spec_RowSame : Nat := 109
abbrev g_spec_l12Rows : Nat := 110
abbrev g_spec_l12Seat : Nat := 111
abbrev g_spec_HouseSame : Nat := 112
abbrev g_spec_l7Item : Nat := 113
abbrev g_spec_l17Agents : Nat := 114
abbrev g_spec_WorldSame : Nat := 115
abbrev g_laws_FnExactWorldSame : Nat := 116
def m_slices_Equal_Sint : MFun where
  code := (.seq (.reg 0 none [⟨some 4, .asg (.k (.b false)), none, [4]⟩])
  (.seq (.seq (.reg 1 none [⟨some 6, .mv (.t 0), none, []⟩,
    ⟨some 7, .len false (.t 6), none, [6]⟩,
    ⟨some 8, .mv (.t 1), none, []⟩,
    ⟨some 9, .len false (.t 8), none, [8]⟩,
    ⟨some 10, .bin .neq .o (.t 7) (.t 9), none, [7, 9]⟩])
  (.cond (.t 10) (.seq (.reg 2 none [⟨some 4, .asg (.k (.b false)), none, [0, 1, 10]⟩])
  .ret) .sk))
  (.seq (.seq (.reg 3 none [⟨some 11, .mv (.t 0), none, [10]⟩,
    ⟨some 12, .len false (.t 11), none, [11]⟩,
    ⟨some 13, .mv (.k (.i .i64 0)), none, []⟩])
  (.blk 0 (.loop [0, 1, 12, 13] (.seq (.reg 4 none [⟨some 14, .bin .lss .o (.t 13) (.t 12), none, []⟩])
  (.seq (.cond (.t 14) .sk (.exit 0))
  (.seq (.blk 1 (.seq (.reg 5 none [⟨some 15, .mv (.t 13), none, [14]⟩,
    ⟨some 5, .asg (.t 15), none, [15]⟩])
  (.seq (.reg 6 (some [([0, 16], [16]), ([5, 17], [17]), ([16, 17, 18], [16, 17, 18]), ([18, 19], [18, 19]), ([1, 20], [20]), ([5, 21], [21]), ([20, 21, 22], [20, 21, 22]), ([22, 23], [22, 23]), ([5, 19, 23, 24], [5, 19, 23, 24])]) [⟨some 16, .mv (.t 0), none, []⟩,
    ⟨some 17, .mv (.t 5), none, []⟩,
    ⟨some 18, .ia 1 (.t 16) (.t 17), none, [16, 17]⟩,
    ⟨some 19, .ld none (.t 18), none, [18]⟩,
    ⟨some 20, .mv (.t 1), none, []⟩,
    ⟨some 21, .mv (.t 5), none, []⟩,
    ⟨some 22, .ia 1 (.t 20) (.t 21), none, [20, 21]⟩,
    ⟨some 23, .ld none (.t 22), none, [22]⟩,
    ⟨some 24, .bin .neq .o (.t 19) (.t 23), none, [5, 19, 23]⟩])
  (.cond (.t 24) (.seq (.reg 7 none [⟨some 4, .asg (.k (.b false)), none, [0, 1, 12, 13, 24]⟩])
  .ret) .sk))))
  (.reg 8 none [⟨some 25, .bin .add .o (.t 13) (.k (.i .i64 1)), none, [13, 24]⟩,
    ⟨some 13, .mv (.t 25), none, [25]⟩])))))))
  (.seq (.reg 9 none [⟨some 4, .asg (.k (.b true)), none, [0, 1, 12, 13, 14]⟩])
  .ret))))
  res := [.tmp 4]
  ptrs := []
  ar := 2
noncomputable def F_slices_Equal_Sint : Fun := lock (denF m_slices_Equal_Sint)
def m_impl_confSame : MFun where
  code := (.seq (.reg 0 none [⟨some 2, .box true (.t 0), none, [0]⟩,
    ⟨some 3, .box true (.t 1), none, [1]⟩,
    ⟨some 4, .asg (.k (.b false)), none, [4]⟩])
  (.seq (.reg 1 none [⟨some 5, .fa (.t 2) 0, none, []⟩,
    ⟨some 6, .ld none (.t 5), none, [5]⟩,
    ⟨some 7, .fa (.t 3) 0, none, []⟩,
    ⟨some 8, .ld none (.t 7), none, [7]⟩,
    ⟨some 9, .bin .eql .o (.t 6) (.t 8), none, [6, 8]⟩,
    ⟨some 10, .mv (.t 9), none, [9]⟩,
    ⟨some 11, .fa (.t 2) 1, some (10, true), []⟩,
    ⟨some 12, .ld none (.t 11), some (10, true), [11]⟩,
    ⟨some 13, .fa (.t 3) 1, some (10, true), []⟩,
    ⟨some 14, .ld none (.t 13), some (10, true), [13]⟩,
    ⟨some 15, .bin .eql .o (.t 12) (.t 14), some (10, true), [12, 14]⟩,
    ⟨some 16, .pick (.t 10) (.t 15) (.k (.b false)), none, [10, 15]⟩,
    ⟨some 17, .mv (.t 16), none, [16]⟩,
    ⟨some 18, .fa (.t 2) 2, some (17, true), []⟩,
    ⟨some 19, .ld none (.t 18), some (17, true), [18]⟩,
    ⟨some 20, .fa (.t 3) 2, some (17, true), []⟩,
    ⟨some 21, .ld none (.t 20), some (17, true), [20]⟩,
    ⟨some 22, .bin .eql .o (.t 19) (.t 21), some (17, true), [19, 21]⟩,
    ⟨some 23, .pick (.t 17) (.t 22) (.k (.b false)), none, [17, 22]⟩,
    ⟨some 24, .mv (.t 23), none, [23]⟩,
    ⟨some 25, .fa (.t 2) 3, some (24, true), []⟩,
    ⟨some 26, .ld none (.t 25), some (24, true), [25]⟩,
    ⟨some 27, .fa (.t 3) 3, some (24, true), []⟩,
    ⟨some 28, .ld none (.t 27), some (24, true), [27]⟩,
    ⟨some 29, .call g_slices_Equal_Sint F_slices_Equal_Sint [(.S, (.t 26)), (.S, (.t 28))], some (24, true), [26, 28]⟩,
    ⟨some 30, .pick (.t 24) (.t 29) (.k (.b false)), none, [24, 29]⟩,
    ⟨some 31, .mv (.t 30), none, [30]⟩,
    ⟨some 32, .fa (.t 2) 4, some (31, true), []⟩,
    ⟨some 33, .ld none (.t 32), some (31, true), [32]⟩,
    ⟨some 34, .fa (.t 3) 4, some (31, true), []⟩,
    ⟨some 35, .ld none (.t 34), some (31, true), [34]⟩,
    ⟨some 36, .bin .eql .o (.t 33) (.t 35), some (31, true), [33, 35]⟩,
    ⟨some 37, .pick (.t 31) (.t 36) (.k (.b false)), none, [31, 36]⟩,
    ⟨some 38, .mv (.t 37), none, [37]⟩,
    ⟨some 39, .fa (.t 2) 5, some (38, true), []⟩,
    ⟨some 40, .ld none (.t 39), some (38, true), [39]⟩,
    ⟨some 41, .fa (.t 3) 5, some (38, true), []⟩,
    ⟨some 42, .ld none (.t 41), some (38, true), [41]⟩,
    ⟨some 43, .bin .eql .o (.t 40) (.t 42), some (38, true), [40, 42]⟩,
    ⟨some 44, .pick (.t 38) (.t 43) (.k (.b false)), none, [38, 43]⟩,
    ⟨some 45, .mv (.t 44), none, [44]⟩,
    ⟨some 46, .fa (.t 2) 6, some (45, true), []⟩,
    ⟨some 47, .ld none (.t 46), some (45, true), [46]⟩,
    ⟨some 48, .fa (.t 3) 6, some (45, true), []⟩,
    ⟨some 49, .ld none (.t 48), some (45, true), [48]⟩,
    ⟨some 50, .bin .eql .o (.t 47) (.t 49), some (45, true), [47, 49]⟩,
    ⟨some 51, .pick (.t 45) (.t 50) (.k (.b false)), none, [45, 50]⟩,
    ⟨some 52, .mv (.t 51), none, [51]⟩,
    ⟨some 53, .fa (.t 2) 7, some (52, true), []⟩,
    ⟨some 54, .ld none (.t 53), some (52, true), [2, 53]⟩,
    ⟨some 55, .fa (.t 3) 7, some (52, true), []⟩,
    ⟨some 56, .ld none (.t 55), some (52, true), [3, 55]⟩,
    ⟨some 57, .bin .eql .o (.t 54) (.t 56), some (52, true), [54, 56]⟩,
    ⟨some 58, .pick (.t 52) (.t 57) (.k (.b false)), none, [52, 57]⟩,
    ⟨some 4, .asg (.t 58), none, [58]⟩])
  .ret))
  res := [.tmp 4]
  ptrs := []
  ar := 2
noncomputable def F_impl_confSame : Fun := lock (denF m_impl_confSame)
def m_slices_EqualFunc_SSint : MFun where
  code := (.seq (.reg 0 none [⟨some 6, .asg (.k (.b false)), none, [6]⟩])
  (.seq (.seq (.reg 1 none [⟨some 10, .mv (.t 0), none, []⟩,
    ⟨some 11, .len false (.t 10), none, [10]⟩,
    ⟨some 12, .mv (.t 1), none, []⟩,
    ⟨some 13, .len false (.t 12), none, [12]⟩,
    ⟨some 14, .bin .neq .o (.t 11) (.t 13), none, [11, 13]⟩])
  (.cond (.t 14) (.seq (.reg 2 none [⟨some 6, .asg (.k (.b false)), none, [0, 1, 2, 14]⟩])
  .ret) .sk))
  (.seq (.seq (.reg 3 none [⟨some 15, .mv (.t 0), none, [0, 14]⟩,
    ⟨some 16, .len false (.t 15), none, []⟩,
    ⟨some 17, .mv (.k (.i .i64 0)), none, []⟩])
  (.blk 0 (.loop [1, 2, 15, 16, 17] (.seq (.reg 4 none [⟨some 18, .bin .lss .o (.t 17) (.t 16), none, []⟩])
  (.seq (.cond (.t 18) .sk (.exit 0))
  (.seq (.blk 1 (.seq (.reg 5 none [⟨some 19, .mv (.t 17), none, [18]⟩,
    ⟨some 20, .ia 1 (.t 15) (.t 17), none, []⟩,
    ⟨some 21, .ld none (.t 20), none, [20]⟩,
    ⟨some 7, .asg (.t 19), none, [19]⟩,
    ⟨some 8, .asg (.t 21), none, [21]⟩])
  (.seq (.reg 6 none [⟨some 22, .mv (.t 1), none, []⟩,
    ⟨some 23, .mv (.t 7), none, [7]⟩,
    ⟨some 24, .ia 1 (.t 22) (.t 23), none, [22, 23]⟩,
    ⟨some 25, .ld none (.t 24), none, [24]⟩,
    ⟨some 9, .asg (.t 25), none, [25]⟩])
  (.seq (.reg 7 none [⟨some 26, .mv (.t 2), none, []⟩,
    ⟨some 27, .mv (.t 8), none, []⟩,
    ⟨some 28, .mv (.t 9), none, []⟩,
    ⟨some 29, .dyn (.t 26) [(g_slices_Equal_Sint, F_slices_Equal_Sint)] [(.S, (.t 27)), (.S, (.t 28))], none, [8, 9, 26, 27, 28]⟩,
    ⟨some 30, .un .not (.t 29), none, [29]⟩])
  (.cond (.t 30) (.seq (.reg 8 none [⟨some 6, .asg (.k (.b false)), none, [1, 2, 15, 16, 17, 30]⟩])
  .ret) .sk)))))
  (.reg 9 none [⟨some 31, .bin .add .o (.t 17) (.k (.i .i64 1)), none, [17, 30]⟩,
    ⟨some 17, .mv (.t 31), none, [31]⟩])))))))
  (.seq (.reg 10 none [⟨some 6, .asg (.k (.b true)), none, [1, 2, 15, 16, 17, 18]⟩])
  .ret))))
  res := [.tmp 6]
  ptrs := []
  ar := 3
noncomputable def F_slices_EqualFunc_SSint : Fun := lock (denF m_slices_EqualFunc_SSint)
def m_impl_SketchSame : MFun where
  code := (.seq (.reg 0 none [⟨some 2, .box true (.t 0), none, [0]⟩,
    ⟨some 3, .box true (.t 1), none, [1]⟩,
    ⟨some 4, .asg (.k (.b false)), none, [4]⟩])
  (.seq (.reg 1 none [⟨some 5, .fa (.t 2) 0, none, []⟩,
    ⟨some 6, .ld none (.t 5), none, [5]⟩,
    ⟨some 7, .fa (.t 3) 0, none, []⟩,
    ⟨some 8, .ld none (.t 7), none, [7]⟩,
    ⟨some 9, .bin .eql .o (.t 6) (.t 8), none, [6, 8]⟩,
    ⟨some 10, .mv (.t 9), none, [9]⟩,
    ⟨some 11, .fa (.t 2) 1, some (10, true), []⟩,
    ⟨some 12, .ld none (.t 11), some (10, true), [11]⟩,
    ⟨some 13, .fa (.t 3) 1, some (10, true), []⟩,
    ⟨some 14, .ld none (.t 13), some (10, true), [13]⟩,
    ⟨some 15, .bin .eql .o (.t 12) (.t 14), some (10, true), [12, 14]⟩,
    ⟨some 16, .pick (.t 10) (.t 15) (.k (.b false)), none, [10, 15]⟩,
    ⟨some 17, .mv (.t 16), none, [16]⟩,
    ⟨some 18, .fa (.t 2) 2, some (17, true), []⟩,
    ⟨some 19, .ld none (.t 18), some (17, true), [18]⟩,
    ⟨some 20, .fa (.t 3) 2, some (17, true), []⟩,
    ⟨some 21, .ld none (.t 20), some (17, true), [20]⟩,
    ⟨some 22, .bin .eql .o (.t 19) (.t 21), some (17, true), [19, 21]⟩,
    ⟨some 23, .pick (.t 17) (.t 22) (.k (.b false)), none, [17, 22]⟩,
    ⟨some 24, .mv (.t 23), none, [23]⟩,
    ⟨some 25, .fa (.t 2) 3, some (24, true), []⟩,
    ⟨some 26, .ld none (.t 25), some (24, true), [25]⟩,
    ⟨some 27, .fa (.t 3) 3, some (24, true), []⟩,
    ⟨some 28, .ld none (.t 27), some (24, true), [27]⟩,
    ⟨some 29, .bin .eql .o (.t 26) (.t 28), some (24, true), [26, 28]⟩,
    ⟨some 30, .pick (.t 24) (.t 29) (.k (.b false)), none, [24, 29]⟩,
    ⟨some 31, .mv (.t 30), none, [30]⟩,
    ⟨some 32, .fa (.t 2) 4, some (31, true), []⟩,
    ⟨some 33, .ld none (.t 32), some (31, true), [32]⟩,
    ⟨some 34, .fa (.t 3) 4, some (31, true), []⟩,
    ⟨some 35, .ld none (.t 34), some (31, true), [34]⟩,
    ⟨some 36, .call g_slices_Equal_Sint F_slices_Equal_Sint [(.S, (.t 33)), (.S, (.t 35))], some (31, true), [33, 35]⟩,
    ⟨some 37, .pick (.t 31) (.t 36) (.k (.b false)), none, [31, 36]⟩,
    ⟨some 38, .mv (.t 37), none, [37]⟩,
    ⟨some 39, .fa (.t 2) 5, some (38, true), []⟩,
    ⟨some 40, .ld none (.t 39), some (38, true), [39]⟩,
    ⟨some 41, .fa (.t 3) 5, some (38, true), []⟩,
    ⟨some 42, .ld none (.t 41), some (38, true), [41]⟩,
    ⟨some 43, .call g_slices_Equal_Sint F_slices_Equal_Sint [(.S, (.t 40)), (.S, (.t 42))], some (38, true), [40, 42]⟩,
    ⟨some 44, .pick (.t 38) (.t 43) (.k (.b false)), none, [38, 43]⟩,
    ⟨some 45, .mv (.t 44), none, [44]⟩,
    ⟨some 46, .fa (.t 2) 6, some (45, true), []⟩,
    ⟨some 47, .ld none (.t 46), some (45, true), [46]⟩,
    ⟨some 48, .fa (.t 3) 6, some (45, true), []⟩,
    ⟨some 49, .ld none (.t 48), some (45, true), [48]⟩,
    ⟨some 50, .call g_slices_EqualFunc_SSint F_slices_EqualFunc_SSint [(.S, (.t 47)), (.S, (.t 49)), (.S, (.k (.f g_slices_Equal_Sint [])))], some (45, true), [2, 3, 47, 49]⟩,
    ⟨some 51, .pick (.t 45) (.t 50) (.k (.b false)), none, [45, 50]⟩,
    ⟨some 4, .asg (.t 51), none, [51]⟩])
  .ret))
  res := [.tmp 4]
  ptrs := []
  ar := 2
noncomputable def F_impl_SketchSame : Fun := lock (denF m_impl_SketchSame)
def m_slices_Equal_Simpl_Span : MFun where
  code := (.seq (.reg 0 none [⟨some 4, .asg (.k (.b false)), none, [4]⟩])
  (.seq (.seq (.reg 1 none [⟨some 6, .mv (.t 0), none, []⟩,
    ⟨some 7, .len false (.t 6), none, [6]⟩,
    ⟨some 8, .mv (.t 1), none, []⟩,
    ⟨some 9, .len false (.t 8), none, [8]⟩,
    ⟨some 10, .bin .neq .o (.t 7) (.t 9), none, [7, 9]⟩])
  (.cond (.t 10) (.seq (.reg 2 none [⟨some 4, .asg (.k (.b false)), none, [0, 1, 10]⟩])
  .ret) .sk))
  (.seq (.seq (.reg 3 none [⟨some 11, .mv (.t 0), none, [10]⟩,
    ⟨some 12, .len false (.t 11), none, [11]⟩,
    ⟨some 13, .mv (.k (.i .i64 0)), none, []⟩])
  (.blk 0 (.loop [0, 1, 12, 13] (.seq (.reg 4 none [⟨some 14, .bin .lss .o (.t 13) (.t 12), none, []⟩])
  (.seq (.cond (.t 14) .sk (.exit 0))
  (.seq (.blk 1 (.seq (.reg 5 none [⟨some 15, .mv (.t 13), none, [14]⟩,
    ⟨some 5, .asg (.t 15), none, [15]⟩])
  (.seq (.reg 6 (some [([0, 16], [16]), ([5, 17], [17]), ([16, 17, 18], [16, 17, 18]), ([18, 19], [18, 19]), ([1, 20], [20]), ([5, 21], [21]), ([20, 21, 22], [20, 21, 22]), ([22, 23], [22, 23]), ([5, 19, 23, 24], [5, 19, 23, 24])]) [⟨some 16, .mv (.t 0), none, []⟩,
    ⟨some 17, .mv (.t 5), none, []⟩,
    ⟨some 18, .ia 2 (.t 16) (.t 17), none, [16, 17]⟩,
    ⟨some 19, .ld (some 2) (.t 18), none, [18]⟩,
    ⟨some 20, .mv (.t 1), none, []⟩,
    ⟨some 21, .mv (.t 5), none, []⟩,
    ⟨some 22, .ia 2 (.t 20) (.t 21), none, [20, 21]⟩,
    ⟨some 23, .ld (some 2) (.t 22), none, [22]⟩,
    ⟨some 24, .bin .neq .p (.t 19) (.t 23), none, [5, 19, 23]⟩])
  (.cond (.t 24) (.seq (.reg 7 none [⟨some 4, .asg (.k (.b false)), none, [0, 1, 12, 13, 24]⟩])
  .ret) .sk))))
  (.reg 8 none [⟨some 25, .bin .add .o (.t 13) (.k (.i .i64 1)), none, [13, 24]⟩,
    ⟨some 13, .mv (.t 25), none, [25]⟩])))))))
  (.seq (.reg 9 none [⟨some 4, .asg (.k (.b true)), none, [0, 1, 12, 13, 14]⟩])
  .ret))))
  res := [.tmp 4]
  ptrs := []
  ar := 2
noncomputable def F_slices_Equal_Simpl_Span : Fun := lock (denF m_slices_Equal_Simpl_Span)
def m_impl_EntrySame : MFun where
  code := (.seq (.reg 0 none [⟨some 2, .box true (.t 0), none, [0]⟩,
    ⟨some 3, .box true (.t 1), none, [1]⟩,
    ⟨some 4, .asg (.k (.b false)), none, [4]⟩])
  (.seq (.reg 1 none [⟨some 5, .fa (.t 2) 0, none, []⟩,
    ⟨some 6, .ld none (.t 5), none, [5]⟩,
    ⟨some 7, .fa (.t 3) 0, none, []⟩,
    ⟨some 8, .ld none (.t 7), none, [7]⟩,
    ⟨some 9, .bin .eql .o (.t 6) (.t 8), none, [6, 8]⟩,
    ⟨some 10, .mv (.t 9), none, [9]⟩,
    ⟨some 11, .fa (.t 2) 1, some (10, true), []⟩,
    ⟨some 12, .ld none (.t 11), some (10, true), [11]⟩,
    ⟨some 13, .fa (.t 3) 1, some (10, true), []⟩,
    ⟨some 14, .ld none (.t 13), some (10, true), [13]⟩,
    ⟨some 15, .bin .eql .o (.t 12) (.t 14), some (10, true), [12, 14]⟩,
    ⟨some 16, .pick (.t 10) (.t 15) (.k (.b false)), none, [10, 15]⟩,
    ⟨some 17, .mv (.t 16), none, [16]⟩,
    ⟨some 18, .fa (.t 2) 2, some (17, true), []⟩,
    ⟨some 19, .ld none (.t 18), some (17, true), [18]⟩,
    ⟨some 20, .fa (.t 3) 2, some (17, true), []⟩,
    ⟨some 21, .ld none (.t 20), some (17, true), [20]⟩,
    ⟨some 22, .call g_slices_Equal_Simpl_Span F_slices_Equal_Simpl_Span [(.S, (.t 19)), (.S, (.t 21))], some (17, true), [19, 21]⟩,
    ⟨some 23, .pick (.t 17) (.t 22) (.k (.b false)), none, [17, 22]⟩,
    ⟨some 24, .mv (.t 23), none, [23]⟩,
    ⟨some 25, .fa (.t 2) 3, some (24, true), []⟩,
    ⟨some 26, .ld (some 7) (.t 25), some (24, true), [25]⟩,
    ⟨some 27, .fa (.t 3) 3, some (24, true), []⟩,
    ⟨some 28, .ld (some 7) (.t 27), some (24, true), [27]⟩,
    ⟨some 29, .call g_impl_SketchSame F_impl_SketchSame [(.S, (.t 26)), (.S, (.t 28))], some (24, true), [2, 3, 26, 28]⟩,
    ⟨some 30, .pick (.t 24) (.t 29) (.k (.b false)), none, [24, 29]⟩,
    ⟨some 4, .asg (.t 30), none, [30]⟩])
  .ret))
  res := [.tmp 4]
  ptrs := []
  ar := 2
noncomputable def F_impl_EntrySame : Fun := lock (denF m_impl_EntrySame)
def m_slices_EqualFunc_Simpl_Entry : MFun where
  code := (.seq (.reg 0 none [⟨some 6, .asg (.k (.b false)), none, [6]⟩])
  (.seq (.seq (.reg 1 none [⟨some 10, .mv (.t 0), none, []⟩,
    ⟨some 11, .len false (.t 10), none, [10]⟩,
    ⟨some 12, .mv (.t 1), none, []⟩,
    ⟨some 13, .len false (.t 12), none, [12]⟩,
    ⟨some 14, .bin .neq .o (.t 11) (.t 13), none, [11, 13]⟩])
  (.cond (.t 14) (.seq (.reg 2 none [⟨some 6, .asg (.k (.b false)), none, [0, 1, 2, 14]⟩])
  .ret) .sk))
  (.seq (.seq (.reg 3 none [⟨some 15, .mv (.t 0), none, [0, 14]⟩,
    ⟨some 16, .len false (.t 15), none, []⟩,
    ⟨some 17, .mv (.k (.i .i64 0)), none, []⟩])
  (.blk 0 (.loop [1, 2, 15, 16, 17] (.seq (.reg 4 none [⟨some 18, .bin .lss .o (.t 17) (.t 16), none, []⟩])
  (.seq (.cond (.t 18) .sk (.exit 0))
  (.seq (.blk 1 (.seq (.reg 5 none [⟨some 19, .mv (.t 17), none, [18]⟩,
    ⟨some 20, .ia 10 (.t 15) (.t 17), none, []⟩,
    ⟨some 21, .ld (some 10) (.t 20), none, [20]⟩,
    ⟨some 8, .alloc [.i .i64 0, .i .i64 0, .l .y 2 [], .i .i64 0, .i .i64 0, .i .i64 0, .i .i64 0, .l .y 1 [], .l .y 1 [], .l .y 1 []], none, []⟩,
    ⟨some 7, .asg (.t 19), none, [19]⟩,
    ⟨none, .sto 10 true (.t 8) (.t 21), none, [21]⟩])
  (.seq (.reg 6 none [⟨some 22, .mv (.t 1), none, []⟩,
    ⟨some 23, .mv (.t 7), none, [7]⟩,
    ⟨some 24, .ia 10 (.t 22) (.t 23), none, [22, 23]⟩,
    ⟨some 25, .ld (some 10) (.t 24), none, [24]⟩,
    ⟨some 9, .alloc [.i .i64 0, .i .i64 0, .l .y 2 [], .i .i64 0, .i .i64 0, .i .i64 0, .i .i64 0, .l .y 1 [], .l .y 1 [], .l .y 1 []], none, []⟩,
    ⟨none, .sto 10 true (.t 9) (.t 25), none, [25]⟩])
  (.seq (.reg 7 none [⟨some 26, .mv (.t 2), none, []⟩,
    ⟨some 27, .ld (some 10) (.t 8), none, []⟩,
    ⟨some 28, .ld (some 10) (.t 9), none, []⟩,
    ⟨some 29, .dyn (.t 26) [(g_impl_EntrySame, F_impl_EntrySame)] [(.S, (.t 27)), (.S, (.t 28))], none, [8, 9, 26, 27, 28]⟩,
    ⟨some 30, .un .not (.t 29), none, [29]⟩])
  (.cond (.t 30) (.seq (.reg 8 none [⟨some 6, .asg (.k (.b false)), none, [1, 2, 15, 16, 17, 30]⟩])
  .ret) .sk)))))
  (.reg 9 none [⟨some 31, .bin .add .o (.t 17) (.k (.i .i64 1)), none, [17, 30]⟩,
    ⟨some 17, .mv (.t 31), none, [31]⟩])))))))
  (.seq (.reg 10 none [⟨some 6, .asg (.k (.b true)), none, [1, 2, 15, 16, 17, 18]⟩])
  .ret))))
  res := [.tmp 6]
  ptrs := []
  ar := 3
noncomputable def F_slices_EqualFunc_Simpl_Entry : Fun := lock (denF m_slices_EqualFunc_Simpl_Entry)
def m_impl_RowSame : MFun where
  code := (.seq (.reg 0 none [⟨some 2, .box true (.t 0), none, [0]⟩,
    ⟨some 3, .box true (.t 1), none, [1]⟩,
    ⟨some 4, .asg (.k (.b false)), none, [4]⟩])
  (.seq (.reg 1 none [⟨some 5, .fa (.t 2) 0, none, []⟩,
    ⟨some 6, .ld none (.t 5), none, [5]⟩,
    ⟨some 7, .fa (.t 3) 0, none, []⟩,
    ⟨some 8, .ld none (.t 7), none, [7]⟩,
    ⟨some 9, .call g_slices_EqualFunc_Simpl_Entry F_slices_EqualFunc_Simpl_Entry [(.S, (.t 6)), (.S, (.t 8)), (.S, (.k (.f g_impl_EntrySame [])))], none, [2, 3, 6, 8]⟩,
    ⟨some 4, .asg (.t 9), none, [9]⟩])
  .ret))
  res := [.tmp 4]
  ptrs := []
  ar := 2
noncomputable def F_impl_RowSame : Fun := lock (denF m_impl_RowSame)
def m_slices_EqualFunc_Simpl_Row : MFun where
  code := (.seq (.reg 0 none [⟨some 6, .asg (.k (.b false)), none, [6]⟩])
  (.seq (.seq (.reg 1 none [⟨some 10, .mv (.t 0), none, []⟩,
    ⟨some 11, .len false (.t 10), none, [10]⟩,
    ⟨some 12, .mv (.t 1), none, []⟩,
    ⟨some 13, .len false (.t 12), none, [12]⟩,
    ⟨some 14, .bin .neq .o (.t 11) (.t 13), none, [11, 13]⟩])
  (.cond (.t 14) (.seq (.reg 2 none [⟨some 6, .asg (.k (.b false)), none, [0, 1, 2, 14]⟩])
  .ret) .sk))
  (.seq (.seq (.reg 3 none [⟨some 15, .mv (.t 0), none, [0, 14]⟩,
    ⟨some 16, .len false (.t 15), none, []⟩,
    ⟨some 17, .mv (.k (.i .i64 0)), none, []⟩])
  (.blk 0 (.loop [1, 2, 15, 16, 17] (.seq (.reg 4 none [⟨some 18, .bin .lss .o (.t 17) (.t 16), none, []⟩])
  (.seq (.cond (.t 18) .sk (.exit 0))
  (.seq (.blk 1 (.seq (.reg 5 none [⟨some 19, .mv (.t 17), none, [18]⟩,
    ⟨some 20, .ia 1 (.t 15) (.t 17), none, []⟩,
    ⟨some 21, .ld (some 1) (.t 20), none, [20]⟩,
    ⟨some 8, .alloc [.l .y 10 []], none, []⟩,
    ⟨some 7, .asg (.t 19), none, [19]⟩,
    ⟨none, .sto 1 true (.t 8) (.t 21), none, [21]⟩])
  (.seq (.reg 6 none [⟨some 22, .mv (.t 1), none, []⟩,
    ⟨some 23, .mv (.t 7), none, [7]⟩,
    ⟨some 24, .ia 1 (.t 22) (.t 23), none, [22, 23]⟩,
    ⟨some 25, .ld (some 1) (.t 24), none, [24]⟩,
    ⟨some 9, .alloc [.l .y 10 []], none, []⟩,
    ⟨none, .sto 1 true (.t 9) (.t 25), none, [25]⟩])
  (.seq (.reg 7 none [⟨some 26, .mv (.t 2), none, []⟩,
    ⟨some 27, .ld (some 1) (.t 8), none, []⟩,
    ⟨some 28, .ld (some 1) (.t 9), none, []⟩,
    ⟨some 29, .dyn (.t 26) [(g_impl_RowSame, F_impl_RowSame)] [(.S, (.t 27)), (.S, (.t 28))], none, [8, 9, 26, 27, 28]⟩,
    ⟨some 30, .un .not (.t 29), none, [29]⟩])
  (.cond (.t 30) (.seq (.reg 8 none [⟨some 6, .asg (.k (.b false)), none, [1, 2, 15, 16, 17, 30]⟩])
  .ret) .sk)))))
  (.reg 9 none [⟨some 31, .bin .add .o (.t 17) (.k (.i .i64 1)), none, [17, 30]⟩,
    ⟨some 17, .mv (.t 31), none, [31]⟩])))))))
  (.seq (.reg 10 none [⟨some 6, .asg (.k (.b true)), none, [1, 2, 15, 16, 17, 18]⟩])
  .ret))))
  res := [.tmp 6]
  ptrs := []
  ar := 3
noncomputable def F_slices_EqualFunc_Simpl_Row : Fun := lock (denF m_slices_EqualFunc_Simpl_Row)
def m_impl_HouseSame_c1 : MFun where
  code := (.seq (.reg 0 none [⟨some 4, .asg (.k (.b false)), none, [4]⟩])
  (.seq (.reg 1 none [⟨some 5, .mv (.t 0), none, [0]⟩,
    ⟨some 6, .mv (.t 1), none, [1]⟩,
    ⟨some 7, .call g_slices_EqualFunc_Simpl_Row F_slices_EqualFunc_Simpl_Row [(.S, (.t 5)), (.S, (.t 6)), (.S, (.k (.f g_impl_RowSame [])))], none, [5, 6]⟩,
    ⟨some 4, .asg (.t 7), none, [7]⟩])
  .ret))
  res := [.tmp 4]
  ptrs := []
  ar := 2
noncomputable def F_impl_HouseSame_c1 : Fun := lock (denF m_impl_HouseSame_c1)
def m_slices_EqualFunc_SSimpl_Row : MFun where
  code := (.seq (.reg 0 none [⟨some 6, .asg (.k (.b false)), none, [6]⟩])
  (.seq (.seq (.reg 1 none [⟨some 10, .mv (.t 0), none, []⟩,
    ⟨some 11, .len false (.t 10), none, [10]⟩,
    ⟨some 12, .mv (.t 1), none, []⟩,
    ⟨some 13, .len false (.t 12), none, [12]⟩,
    ⟨some 14, .bin .neq .o (.t 11) (.t 13), none, [11, 13]⟩])
  (.cond (.t 14) (.seq (.reg 2 none [⟨some 6, .asg (.k (.b false)), none, [0, 1, 2, 14]⟩])
  .ret) .sk))
  (.seq (.seq (.reg 3 none [⟨some 15, .mv (.t 0), none, [0, 14]⟩,
    ⟨some 16, .len false (.t 15), none, []⟩,
    ⟨some 17, .mv (.k (.i .i64 0)), none, []⟩])
  (.blk 0 (.loop [1, 2, 15, 16, 17] (.seq (.reg 4 none [⟨some 18, .bin .lss .o (.t 17) (.t 16), none, []⟩])
  (.seq (.cond (.t 18) .sk (.exit 0))
  (.seq (.blk 1 (.seq (.reg 5 none [⟨some 19, .mv (.t 17), none, [18]⟩,
    ⟨some 20, .ia 1 (.t 15) (.t 17), none, []⟩,
    ⟨some 21, .ld none (.t 20), none, [20]⟩,
    ⟨some 7, .asg (.t 19), none, [19]⟩,
    ⟨some 8, .asg (.t 21), none, [21]⟩])
  (.seq (.reg 6 none [⟨some 22, .mv (.t 1), none, []⟩,
    ⟨some 23, .mv (.t 7), none, [7]⟩,
    ⟨some 24, .ia 1 (.t 22) (.t 23), none, [22, 23]⟩,
    ⟨some 25, .ld none (.t 24), none, [24]⟩,
    ⟨some 9, .asg (.t 25), none, [25]⟩])
  (.seq (.reg 7 none [⟨some 26, .mv (.t 2), none, []⟩,
    ⟨some 27, .mv (.t 8), none, []⟩,
    ⟨some 28, .mv (.t 9), none, []⟩,
    ⟨some 29, .dyn (.t 26) [(g_impl_HouseSame_c1, F_impl_HouseSame_c1)] [(.S, (.t 27)), (.S, (.t 28))], none, [8, 9, 26, 27, 28]⟩,
    ⟨some 30, .un .not (.t 29), none, [29]⟩])
  (.cond (.t 30) (.seq (.reg 8 none [⟨some 6, .asg (.k (.b false)), none, [1, 2, 15, 16, 17, 30]⟩])
  .ret) .sk)))))
  (.reg 9 none [⟨some 31, .bin .add .o (.t 17) (.k (.i .i64 1)), none, [17, 30]⟩,
    ⟨some 17, .mv (.t 31), none, [31]⟩])))))))
  (.seq (.reg 10 none [⟨some 6, .asg (.k (.b true)), none, [1, 2, 15, 16, 17, 18]⟩])
  .ret))))
  res := [.tmp 6]
  ptrs := []
  ar := 3
noncomputable def F_slices_EqualFunc_SSimpl_Row : Fun := lock (denF m_slices_EqualFunc_SSimpl_Row)
def m_impl_outSame : MFun where
  code := (.seq (.reg 0 none [⟨some 2, .box true (.t 0), none, [0]⟩,
    ⟨some 3, .box true (.t 1), none, [1]⟩,
    ⟨some 4, .asg (.k (.b false)), none, [4]⟩])
  (.seq (.reg 1 none [⟨some 5, .fa (.t 2) 0, none, []⟩,
    ⟨some 6, .ld none (.t 5), none, [5]⟩,
    ⟨some 7, .fa (.t 3) 0, none, []⟩,
    ⟨some 8, .ld none (.t 7), none, [7]⟩,
    ⟨some 9, .bin .eql .o (.t 6) (.t 8), none, [6, 8]⟩,
    ⟨some 10, .mv (.t 9), none, [9]⟩,
    ⟨some 11, .fa (.t 2) 1, some (10, true), []⟩,
    ⟨some 12, .ld (some 10) (.t 11), some (10, true), [11]⟩,
    ⟨some 13, .fa (.t 3) 1, some (10, true), []⟩,
    ⟨some 14, .ld (some 10) (.t 13), some (10, true), [13]⟩,
    ⟨some 15, .call g_impl_EntrySame F_impl_EntrySame [(.S, (.t 12)), (.S, (.t 14))], some (10, true), [2, 3, 12, 14]⟩,
    ⟨some 16, .pick (.t 10) (.t 15) (.k (.b false)), none, [10, 15]⟩,
    ⟨some 4, .asg (.t 16), none, [16]⟩])
  .ret))
  res := [.tmp 4]
  ptrs := []
  ar := 2
noncomputable def F_impl_outSame : Fun := lock (denF m_impl_outSame)
def m_slices_EqualFunc_Simpl_Out : MFun where
  code := (.seq (.reg 0 none [⟨some 6, .asg (.k (.b false)), none, [6]⟩])
  (.seq (.seq (.reg 1 none [⟨some 10, .mv (.t 0), none, []⟩,
    ⟨some 11, .len false (.t 10), none, [10]⟩,
    ⟨some 12, .mv (.t 1), none, []⟩,
    ⟨some 13, .len false (.t 12), none, [12]⟩,
    ⟨some 14, .bin .neq .o (.t 11) (.t 13), none, [11, 13]⟩])
  (.cond (.t 14) (.seq (.reg 2 none [⟨some 6, .asg (.k (.b false)), none, [0, 1, 2, 14]⟩])
  .ret) .sk))
  (.seq (.seq (.reg 3 none [⟨some 15, .mv (.t 0), none, [0, 14]⟩,
    ⟨some 16, .len false (.t 15), none, []⟩,
    ⟨some 17, .mv (.k (.i .i64 0)), none, []⟩])
  (.blk 0 (.loop [1, 2, 15, 16, 17] (.seq (.reg 4 none [⟨some 18, .bin .lss .o (.t 17) (.t 16), none, []⟩])
  (.seq (.cond (.t 18) .sk (.exit 0))
  (.seq (.blk 1 (.seq (.reg 5 none [⟨some 19, .mv (.t 17), none, [18]⟩,
    ⟨some 20, .ia 11 (.t 15) (.t 17), none, []⟩,
    ⟨some 21, .ld (some 11) (.t 20), none, [20]⟩,
    ⟨some 8, .alloc [.i .i64 0, .i .i64 0, .i .i64 0, .l .y 2 [], .i .i64 0, .i .i64 0, .i .i64 0, .i .i64 0, .l .y 1 [], .l .y 1 [], .l .y 1 []], none, []⟩,
    ⟨some 7, .asg (.t 19), none, [19]⟩,
    ⟨none, .sto 11 true (.t 8) (.t 21), none, [21]⟩])
  (.seq (.reg 6 none [⟨some 22, .mv (.t 1), none, []⟩,
    ⟨some 23, .mv (.t 7), none, [7]⟩,
    ⟨some 24, .ia 11 (.t 22) (.t 23), none, [22, 23]⟩,
    ⟨some 25, .ld (some 11) (.t 24), none, [24]⟩,
    ⟨some 9, .alloc [.i .i64 0, .i .i64 0, .i .i64 0, .l .y 2 [], .i .i64 0, .i .i64 0, .i .i64 0, .i .i64 0, .l .y 1 [], .l .y 1 [], .l .y 1 []], none, []⟩,
    ⟨none, .sto 11 true (.t 9) (.t 25), none, [25]⟩])
  (.seq (.reg 7 none [⟨some 26, .mv (.t 2), none, []⟩,
    ⟨some 27, .ld (some 11) (.t 8), none, []⟩,
    ⟨some 28, .ld (some 11) (.t 9), none, []⟩,
    ⟨some 29, .dyn (.t 26) [(g_impl_outSame, F_impl_outSame)] [(.S, (.t 27)), (.S, (.t 28))], none, [8, 9, 26, 27, 28]⟩,
    ⟨some 30, .un .not (.t 29), none, [29]⟩])
  (.cond (.t 30) (.seq (.reg 8 none [⟨some 6, .asg (.k (.b false)), none, [1, 2, 15, 16, 17, 30]⟩])
  .ret) .sk)))))
  (.reg 9 none [⟨some 31, .bin .add .o (.t 17) (.k (.i .i64 1)), none, [17, 30]⟩,
    ⟨some 17, .mv (.t 31), none, [31]⟩])))))))
  (.seq (.reg 10 none [⟨some 6, .asg (.k (.b true)), none, [1, 2, 15, 16, 17, 18]⟩])
  .ret))))
  res := [.tmp 6]
  ptrs := []
  ar := 3
noncomputable def F_slices_EqualFunc_Simpl_Out : Fun := lock (denF m_slices_EqualFunc_Simpl_Out)
def m_impl_seatSame : MFun where
  code := (.seq (.reg 0 none [⟨some 2, .box true (.t 0), none, [0]⟩,
    ⟨some 3, .box true (.t 1), none, [1]⟩,
    ⟨some 4, .asg (.k (.b false)), none, [4]⟩])
  (.seq (.reg 1 none [⟨some 5, .fa (.t 2) 0, none, []⟩,
    ⟨some 6, .ld none (.t 5), none, [5]⟩,
    ⟨some 7, .fa (.t 3) 0, none, []⟩,
    ⟨some 8, .ld none (.t 7), none, [7]⟩,
    ⟨some 9, .bin .eql .o (.t 6) (.t 8), none, [6, 8]⟩,
    ⟨some 10, .mv (.t 9), none, [9]⟩,
    ⟨some 11, .fa (.t 2) 1, some (10, true), []⟩,
    ⟨some 12, .ld none (.t 11), some (10, true), [11]⟩,
    ⟨some 13, .fa (.t 3) 1, some (10, true), []⟩,
    ⟨some 14, .ld none (.t 13), some (10, true), [13]⟩,
    ⟨some 15, .bin .eql .o (.t 12) (.t 14), some (10, true), [12, 14]⟩,
    ⟨some 16, .pick (.t 10) (.t 15) (.k (.b false)), none, [10, 15]⟩,
    ⟨some 17, .mv (.t 16), none, [16]⟩,
    ⟨some 18, .fa (.t 2) 2, some (17, true), []⟩,
    ⟨some 19, .ld none (.t 18), some (17, true), [18]⟩,
    ⟨some 20, .fa (.t 3) 2, some (17, true), []⟩,
    ⟨some 21, .ld none (.t 20), some (17, true), [20]⟩,
    ⟨some 22, .call g_slices_Equal_Simpl_Span F_slices_Equal_Simpl_Span [(.S, (.t 19)), (.S, (.t 21))], some (17, true), [19, 21]⟩,
    ⟨some 23, .pick (.t 17) (.t 22) (.k (.b false)), none, [17, 22]⟩,
    ⟨some 24, .mv (.t 23), none, [23]⟩,
    ⟨some 25, .fa (.t 2) 3, some (24, true), []⟩,
    ⟨some 26, .ld none (.t 25), some (24, true), [25]⟩,
    ⟨some 27, .fa (.t 3) 3, some (24, true), []⟩,
    ⟨some 28, .ld none (.t 27), some (24, true), [27]⟩,
    ⟨some 29, .bin .eql .o (.t 26) (.t 28), some (24, true), [26, 28]⟩,
    ⟨some 30, .pick (.t 24) (.t 29) (.k (.b false)), none, [24, 29]⟩,
    ⟨some 31, .mv (.t 30), none, [30]⟩,
    ⟨some 32, .fa (.t 2) 4, some (31, true), []⟩,
    ⟨some 33, .ld none (.t 32), some (31, true), [2, 32]⟩,
    ⟨some 34, .fa (.t 3) 4, some (31, true), []⟩,
    ⟨some 35, .ld none (.t 34), some (31, true), [3, 34]⟩,
    ⟨some 36, .bin .eql .o (.t 33) (.t 35), some (31, true), [33, 35]⟩,
    ⟨some 37, .pick (.t 31) (.t 36) (.k (.b false)), none, [31, 36]⟩,
    ⟨some 4, .asg (.t 37), none, [37]⟩])
  .ret))
  res := [.tmp 4]
  ptrs := []
  ar := 2
noncomputable def F_impl_seatSame : Fun := lock (denF m_impl_seatSame)
def m_slices_EqualFunc_Simpl_Seat : MFun where
  code := (.seq (.reg 0 none [⟨some 6, .asg (.k (.b false)), none, [6]⟩])
  (.seq (.seq (.reg 1 none [⟨some 10, .mv (.t 0), none, []⟩,
    ⟨some 11, .len false (.t 10), none, [10]⟩,
    ⟨some 12, .mv (.t 1), none, []⟩,
    ⟨some 13, .len false (.t 12), none, [12]⟩,
    ⟨some 14, .bin .neq .o (.t 11) (.t 13), none, [11, 13]⟩])
  (.cond (.t 14) (.seq (.reg 2 none [⟨some 6, .asg (.k (.b false)), none, [0, 1, 2, 14]⟩])
  .ret) .sk))
  (.seq (.seq (.reg 3 none [⟨some 15, .mv (.t 0), none, [0, 14]⟩,
    ⟨some 16, .len false (.t 15), none, []⟩,
    ⟨some 17, .mv (.k (.i .i64 0)), none, []⟩])
  (.blk 0 (.loop [1, 2, 15, 16, 17] (.seq (.reg 4 none [⟨some 18, .bin .lss .o (.t 17) (.t 16), none, []⟩])
  (.seq (.cond (.t 18) .sk (.exit 0))
  (.seq (.blk 1 (.seq (.reg 5 none [⟨some 19, .mv (.t 17), none, [18]⟩,
    ⟨some 20, .ia 5 (.t 15) (.t 17), none, []⟩,
    ⟨some 21, .ld (some 5) (.t 20), none, [20]⟩,
    ⟨some 8, .alloc [.i .i64 0, .i .i64 0, .l .y 2 [], .i .i64 0, .i .i64 0], none, []⟩,
    ⟨some 7, .asg (.t 19), none, [19]⟩,
    ⟨none, .sto 5 true (.t 8) (.t 21), none, [21]⟩])
  (.seq (.reg 6 none [⟨some 22, .mv (.t 1), none, []⟩,
    ⟨some 23, .mv (.t 7), none, [7]⟩,
    ⟨some 24, .ia 5 (.t 22) (.t 23), none, [22, 23]⟩,
    ⟨some 25, .ld (some 5) (.t 24), none, [24]⟩,
    ⟨some 9, .alloc [.i .i64 0, .i .i64 0, .l .y 2 [], .i .i64 0, .i .i64 0], none, []⟩,
    ⟨none, .sto 5 true (.t 9) (.t 25), none, [25]⟩])
  (.seq (.reg 7 none [⟨some 26, .mv (.t 2), none, []⟩,
    ⟨some 27, .ld (some 5) (.t 8), none, []⟩,
    ⟨some 28, .ld (some 5) (.t 9), none, []⟩,
    ⟨some 29, .dyn (.t 26) [(g_impl_seatSame, F_impl_seatSame)] [(.S, (.t 27)), (.S, (.t 28))], none, [8, 9, 26, 27, 28]⟩,
    ⟨some 30, .un .not (.t 29), none, [29]⟩])
  (.cond (.t 30) (.seq (.reg 8 none [⟨some 6, .asg (.k (.b false)), none, [1, 2, 15, 16, 17, 30]⟩])
  .ret) .sk)))))
  (.reg 9 none [⟨some 31, .bin .add .o (.t 17) (.k (.i .i64 1)), none, [17, 30]⟩,
    ⟨some 17, .mv (.t 31), none, [31]⟩])))))))
  (.seq (.reg 10 none [⟨some 6, .asg (.k (.b true)), none, [1, 2, 15, 16, 17, 18]⟩])
  .ret))))
  res := [.tmp 6]
  ptrs := []
  ar := 3
noncomputable def F_slices_EqualFunc_Simpl_Seat : Fun := lock (denF m_slices_EqualFunc_Simpl_Seat)
def m_impl_turnSame : MFun where
  code := (.seq (.reg 0 none [⟨some 2, .box true (.t 0), none, [0]⟩,
    ⟨some 3, .box true (.t 1), none, [1]⟩,
    ⟨some 4, .asg (.k (.b false)), none, [4]⟩])
  (.seq (.reg 1 none [⟨some 5, .fa (.t 2) 0, none, []⟩,
    ⟨some 6, .ld none (.t 5), none, [5]⟩,
    ⟨some 7, .fa (.t 3) 0, none, []⟩,
    ⟨some 8, .ld none (.t 7), none, [7]⟩,
    ⟨some 9, .bin .eql .o (.t 6) (.t 8), none, [6, 8]⟩,
    ⟨some 10, .mv (.t 9), none, [9]⟩,
    ⟨some 11, .fa (.t 2) 1, some (10, true), []⟩,
    ⟨some 12, .ld none (.t 11), some (10, true), [11]⟩,
    ⟨some 13, .fa (.t 3) 1, some (10, true), []⟩,
    ⟨some 14, .ld none (.t 13), some (10, true), [13]⟩,
    ⟨some 15, .bin .eql .b (.t 12) (.t 14), some (10, true), [12, 14]⟩,
    ⟨some 16, .pick (.t 10) (.t 15) (.k (.b false)), none, [10, 15]⟩,
    ⟨some 17, .mv (.t 16), none, [16]⟩,
    ⟨some 18, .fa (.t 2) 2, some (17, true), []⟩,
    ⟨some 19, .ld none (.t 18), some (17, true), [18]⟩,
    ⟨some 20, .fa (.t 3) 2, some (17, true), []⟩,
    ⟨some 21, .ld none (.t 20), some (17, true), [20]⟩,
    ⟨some 22, .call g_slices_Equal_Sint F_slices_Equal_Sint [(.S, (.t 19)), (.S, (.t 21))], some (17, true), [2, 3, 19, 21]⟩,
    ⟨some 23, .pick (.t 17) (.t 22) (.k (.b false)), none, [17, 22]⟩,
    ⟨some 4, .asg (.t 23), none, [23]⟩])
  .ret))
  res := [.tmp 4]
  ptrs := []
  ar := 2
noncomputable def F_impl_turnSame : Fun := lock (denF m_impl_turnSame)
def m_slices_EqualFunc_Simpl_Turn : MFun where
  code := (.seq (.reg 0 none [⟨some 6, .asg (.k (.b false)), none, [6]⟩])
  (.seq (.seq (.reg 1 none [⟨some 10, .mv (.t 0), none, []⟩,
    ⟨some 11, .len false (.t 10), none, [10]⟩,
    ⟨some 12, .mv (.t 1), none, []⟩,
    ⟨some 13, .len false (.t 12), none, [12]⟩,
    ⟨some 14, .bin .neq .o (.t 11) (.t 13), none, [11, 13]⟩])
  (.cond (.t 14) (.seq (.reg 2 none [⟨some 6, .asg (.k (.b false)), none, [0, 1, 2, 14]⟩])
  .ret) .sk))
  (.seq (.seq (.reg 3 none [⟨some 15, .mv (.t 0), none, [0, 14]⟩,
    ⟨some 16, .len false (.t 15), none, []⟩,
    ⟨some 17, .mv (.k (.i .i64 0)), none, []⟩])
  (.blk 0 (.loop [1, 2, 15, 16, 17] (.seq (.reg 4 none [⟨some 18, .bin .lss .o (.t 17) (.t 16), none, []⟩])
  (.seq (.cond (.t 18) .sk (.exit 0))
  (.seq (.blk 1 (.seq (.reg 5 none [⟨some 19, .mv (.t 17), none, [18]⟩,
    ⟨some 20, .ia 3 (.t 15) (.t 17), none, []⟩,
    ⟨some 21, .ld (some 3) (.t 20), none, [20]⟩,
    ⟨some 8, .alloc [.i .i64 0, .b false, .l .y 1 []], none, []⟩,
    ⟨some 7, .asg (.t 19), none, [19]⟩,
    ⟨none, .sto 3 true (.t 8) (.t 21), none, [21]⟩])
  (.seq (.reg 6 none [⟨some 22, .mv (.t 1), none, []⟩,
    ⟨some 23, .mv (.t 7), none, [7]⟩,
    ⟨some 24, .ia 3 (.t 22) (.t 23), none, [22, 23]⟩,
    ⟨some 25, .ld (some 3) (.t 24), none, [24]⟩,
    ⟨some 9, .alloc [.i .i64 0, .b false, .l .y 1 []], none, []⟩,
    ⟨none, .sto 3 true (.t 9) (.t 25), none, [25]⟩])
  (.seq (.reg 7 none [⟨some 26, .mv (.t 2), none, []⟩,
    ⟨some 27, .ld (some 3) (.t 8), none, []⟩,
    ⟨some 28, .ld (some 3) (.t 9), none, []⟩,
    ⟨some 29, .dyn (.t 26) [(g_impl_turnSame, F_impl_turnSame)] [(.S, (.t 27)), (.S, (.t 28))], none, [8, 9, 26, 27, 28]⟩,
    ⟨some 30, .un .not (.t 29), none, [29]⟩])
  (.cond (.t 30) (.seq (.reg 8 none [⟨some 6, .asg (.k (.b false)), none, [1, 2, 15, 16, 17, 30]⟩])
  .ret) .sk)))))
  (.reg 9 none [⟨some 31, .bin .add .o (.t 17) (.k (.i .i64 1)), none, [17, 30]⟩,
    ⟨some 17, .mv (.t 31), none, [31]⟩])))))))
  (.seq (.reg 10 none [⟨some 6, .asg (.k (.b true)), none, [1, 2, 15, 16, 17, 18]⟩])
  .ret))))
  res := [.tmp 6]
  ptrs := []
  ar := 3
noncomputable def F_slices_EqualFunc_Simpl_Turn : Fun := lock (denF m_slices_EqualFunc_Simpl_Turn)
def m_impl_HouseSame : MFun where
  code := (.seq (.reg 0 none [⟨some 2, .box true (.t 0), none, [0]⟩,
    ⟨some 3, .box true (.t 1), none, [1]⟩,
    ⟨some 4, .asg (.k (.b false)), none, [4]⟩])
  (.seq (.reg 1 none [⟨some 5, .asg (.k (.f g_impl_HouseSame_c1 [])), none, []⟩])
  (.seq (.reg 2 none [⟨some 6, .fa (.t 2) 0, none, []⟩,
    ⟨some 7, .ld (some 8) (.t 6), none, [6]⟩,
    ⟨some 8, .fa (.t 3) 0, none, []⟩,
    ⟨some 9, .ld (some 8) (.t 8), none, [8]⟩,
    ⟨some 10, .call g_impl_confSame F_impl_confSame [(.S, (.t 7)), (.S, (.t 9))], none, [7, 9]⟩,
    ⟨some 11, .mv (.t 10), none, [10]⟩,
    ⟨some 12, .fa (.t 2) 8, some (11, true), []⟩,
    ⟨some 13, .ld none (.t 12), some (11, true), [12]⟩,
    ⟨some 14, .fa (.t 3) 8, some (11, true), []⟩,
    ⟨some 15, .ld none (.t 14), some (11, true), [14]⟩,
    ⟨some 16, .bin .eql .o (.t 13) (.t 15), some (11, true), [13, 15]⟩,
    ⟨some 17, .pick (.t 11) (.t 16) (.k (.b false)), none, [11, 16]⟩,
    ⟨some 18, .mv (.t 17), none, [17]⟩,
    ⟨some 19, .fa (.t 2) 9, some (18, true), []⟩,
    ⟨some 20, .ld none (.t 19), some (18, true), [19]⟩,
    ⟨some 21, .fa (.t 3) 9, some (18, true), []⟩,
    ⟨some 22, .ld none (.t 21), some (18, true), [21]⟩,
    ⟨some 23, .bin .eql .b (.t 20) (.t 22), some (18, true), [20, 22]⟩,
    ⟨some 24, .pick (.t 18) (.t 23) (.k (.b false)), none, [18, 23]⟩,
    ⟨some 25, .mv (.t 24), none, [24]⟩,
    ⟨some 26, .fa (.t 2) 10, some (25, true), []⟩,
    ⟨some 27, .ld none (.t 26), some (25, true), [26]⟩,
    ⟨some 28, .fa (.t 3) 10, some (25, true), []⟩,
    ⟨some 29, .ld none (.t 28), some (25, true), [28]⟩,
    ⟨some 30, .call g_slices_EqualFunc_Simpl_Seat F_slices_EqualFunc_Simpl_Seat [(.S, (.t 27)), (.S, (.t 29)), (.S, (.k (.f g_impl_seatSame [])))], some (25, true), [27, 29]⟩,
    ⟨some 31, .pick (.t 25) (.t 30) (.k (.b false)), none, [25, 30]⟩,
    ⟨some 32, .mv (.t 31), none, [31]⟩,
    ⟨some 33, .fa (.t 2) 11, some (32, true), []⟩,
    ⟨some 34, .ld none (.t 33), some (32, true), [33]⟩,
    ⟨some 35, .fa (.t 3) 11, some (32, true), []⟩,
    ⟨some 36, .ld none (.t 35), some (32, true), [35]⟩,
    ⟨some 37, .mv (.t 5), some (32, true), [5]⟩,
    ⟨some 38, .call g_slices_EqualFunc_SSimpl_Row F_slices_EqualFunc_SSimpl_Row [(.S, (.t 34)), (.S, (.t 36)), (.S, (.t 37))], some (32, true), [34, 36, 37]⟩,
    ⟨some 39, .pick (.t 32) (.t 38) (.k (.b false)), none, [32, 38]⟩,
    ⟨some 40, .mv (.t 39), none, [39]⟩,
    ⟨some 41, .fa (.t 2) 12, some (40, true), []⟩,
    ⟨some 42, .ld none (.t 41), some (40, true), [41]⟩,
    ⟨some 43, .fa (.t 3) 12, some (40, true), []⟩,
    ⟨some 44, .ld none (.t 43), some (40, true), [43]⟩,
    ⟨some 45, .call g_slices_EqualFunc_Simpl_Turn F_slices_EqualFunc_Simpl_Turn [(.S, (.t 42)), (.S, (.t 44)), (.S, (.k (.f g_impl_turnSame [])))], some (40, true), [42, 44]⟩,
    ⟨some 46, .pick (.t 40) (.t 45) (.k (.b false)), none, [40, 45]⟩,
    ⟨some 47, .mv (.t 46), none, [46]⟩,
    ⟨some 48, .fa (.t 2) 13, some (47, true), []⟩,
    ⟨some 49, .ld none (.t 48), some (47, true), [48]⟩,
    ⟨some 50, .fa (.t 3) 13, some (47, true), []⟩,
    ⟨some 51, .ld none (.t 50), some (47, true), [50]⟩,
    ⟨some 52, .bin .eql .o (.t 49) (.t 51), some (47, true), [49, 51]⟩,
    ⟨some 53, .pick (.t 47) (.t 52) (.k (.b false)), none, [47, 52]⟩,
    ⟨some 54, .mv (.t 53), none, [53]⟩,
    ⟨some 55, .fa (.t 2) 14, some (54, true), []⟩,
    ⟨some 56, .ld none (.t 55), some (54, true), [55]⟩,
    ⟨some 57, .fa (.t 3) 14, some (54, true), []⟩,
    ⟨some 58, .ld none (.t 57), some (54, true), [57]⟩,
    ⟨some 59, .call g_slices_EqualFunc_Simpl_Entry F_slices_EqualFunc_Simpl_Entry [(.S, (.t 56)), (.S, (.t 58)), (.S, (.k (.f g_impl_EntrySame [])))], some (54, true), [56, 58]⟩,
    ⟨some 60, .pick (.t 54) (.t 59) (.k (.b false)), none, [54, 59]⟩,
    ⟨some 61, .mv (.t 60), none, [60]⟩,
    ⟨some 62, .fa (.t 2) 15, some (61, true), []⟩,
    ⟨some 63, .ld none (.t 62), some (61, true), [62]⟩,
    ⟨some 64, .fa (.t 3) 15, some (61, true), []⟩,
    ⟨some 65, .ld none (.t 64), some (61, true), [64]⟩,
    ⟨some 66, .call g_slices_EqualFunc_Simpl_Out F_slices_EqualFunc_Simpl_Out [(.S, (.t 63)), (.S, (.t 65)), (.S, (.k (.f g_impl_outSame [])))], some (61, true), [2, 3, 63, 65]⟩,
    ⟨some 67, .pick (.t 61) (.t 66) (.k (.b false)), none, [61, 66]⟩,
    ⟨some 4, .asg (.t 67), none, [67]⟩])
  .ret)))
  res := [.tmp 4]
  ptrs := []
  ar := 2
noncomputable def F_impl_HouseSame : Fun := lock (denF m_impl_HouseSame)
def m_impl_itemSame : MFun where
  code := (.seq (.reg 0 none [⟨some 2, .box true (.t 0), none, [0]⟩,
    ⟨some 3, .box true (.t 1), none, [1]⟩,
    ⟨some 4, .asg (.k (.b false)), none, [4]⟩])
  (.seq (.reg 1 none [⟨some 5, .fa (.t 2) 0, none, []⟩,
    ⟨some 6, .ld none (.t 5), none, [5]⟩,
    ⟨some 7, .fa (.t 3) 0, none, []⟩,
    ⟨some 8, .ld none (.t 7), none, [7]⟩,
    ⟨some 9, .bin .eql .o (.t 6) (.t 8), none, [6, 8]⟩,
    ⟨some 10, .mv (.t 9), none, [9]⟩,
    ⟨some 11, .fa (.t 2) 1, some (10, true), []⟩,
    ⟨some 12, .ld none (.t 11), some (10, true), [11]⟩,
    ⟨some 13, .fa (.t 3) 1, some (10, true), []⟩,
    ⟨some 14, .ld none (.t 13), some (10, true), [13]⟩,
    ⟨some 15, .bin .eql .o (.t 12) (.t 14), some (10, true), [12, 14]⟩,
    ⟨some 16, .pick (.t 10) (.t 15) (.k (.b false)), none, [10, 15]⟩,
    ⟨some 17, .mv (.t 16), none, [16]⟩,
    ⟨some 18, .fa (.t 2) 2, some (17, true), []⟩,
    ⟨some 19, .ld none (.t 18), some (17, true), [18]⟩,
    ⟨some 20, .fa (.t 3) 2, some (17, true), []⟩,
    ⟨some 21, .ld none (.t 20), some (17, true), [20]⟩,
    ⟨some 22, .bin .eql .o (.t 19) (.t 21), some (17, true), [19, 21]⟩,
    ⟨some 23, .pick (.t 17) (.t 22) (.k (.b false)), none, [17, 22]⟩,
    ⟨some 24, .mv (.t 23), none, [23]⟩,
    ⟨some 25, .fa (.t 2) 3, some (24, true), []⟩,
    ⟨some 26, .ld none (.t 25), some (24, true), [25]⟩,
    ⟨some 27, .fa (.t 3) 3, some (24, true), []⟩,
    ⟨some 28, .ld none (.t 27), some (24, true), [27]⟩,
    ⟨some 29, .bin .eql .o (.t 26) (.t 28), some (24, true), [26, 28]⟩,
    ⟨some 30, .pick (.t 24) (.t 29) (.k (.b false)), none, [24, 29]⟩,
    ⟨some 31, .mv (.t 30), none, [30]⟩,
    ⟨some 32, .fa (.t 2) 4, some (31, true), []⟩,
    ⟨some 33, .ld (some 7) (.t 32), some (31, true), [32]⟩,
    ⟨some 34, .fa (.t 3) 4, some (31, true), []⟩,
    ⟨some 35, .ld (some 7) (.t 34), some (31, true), [34]⟩,
    ⟨some 36, .call g_impl_SketchSame F_impl_SketchSame [(.S, (.t 33)), (.S, (.t 35))], some (31, true), [2, 3, 33, 35]⟩,
    ⟨some 37, .pick (.t 31) (.t 36) (.k (.b false)), none, [31, 36]⟩,
    ⟨some 4, .asg (.t 37), none, [37]⟩])
  .ret))
  res := [.tmp 4]
  ptrs := []
  ar := 2
noncomputable def F_impl_itemSame : Fun := lock (denF m_impl_itemSame)
def m_slices_EqualFunc_Simpl_Item : MFun where
  code := (.seq (.reg 0 none [⟨some 6, .asg (.k (.b false)), none, [6]⟩])
  (.seq (.seq (.reg 1 none [⟨some 10, .mv (.t 0), none, []⟩,
    ⟨some 11, .len false (.t 10), none, [10]⟩,
    ⟨some 12, .mv (.t 1), none, []⟩,
    ⟨some 13, .len false (.t 12), none, [12]⟩,
    ⟨some 14, .bin .neq .o (.t 11) (.t 13), none, [11, 13]⟩])
  (.cond (.t 14) (.seq (.reg 2 none [⟨some 6, .asg (.k (.b false)), none, [0, 1, 2, 14]⟩])
  .ret) .sk))
  (.seq (.seq (.reg 3 none [⟨some 15, .mv (.t 0), none, [0, 14]⟩,
    ⟨some 16, .len false (.t 15), none, []⟩,
    ⟨some 17, .mv (.k (.i .i64 0)), none, []⟩])
  (.blk 0 (.loop [1, 2, 15, 16, 17] (.seq (.reg 4 none [⟨some 18, .bin .lss .o (.t 17) (.t 16), none, []⟩])
  (.seq (.cond (.t 18) .sk (.exit 0))
  (.seq (.blk 1 (.seq (.reg 5 none [⟨some 19, .mv (.t 17), none, [18]⟩,
    ⟨some 20, .ia 11 (.t 15) (.t 17), none, []⟩,
    ⟨some 21, .ld (some 11) (.t 20), none, [20]⟩,
    ⟨some 8, .alloc [.i .i64 0, .i .i64 0, .i .i64 0, .i .i64 0, .i .i64 0, .i .i64 0, .i .i64 0, .i .i64 0, .l .y 1 [], .l .y 1 [], .l .y 1 []], none, []⟩,
    ⟨some 7, .asg (.t 19), none, [19]⟩,
    ⟨none, .sto 11 true (.t 8) (.t 21), none, [21]⟩])
  (.seq (.reg 6 none [⟨some 22, .mv (.t 1), none, []⟩,
    ⟨some 23, .mv (.t 7), none, [7]⟩,
    ⟨some 24, .ia 11 (.t 22) (.t 23), none, [22, 23]⟩,
    ⟨some 25, .ld (some 11) (.t 24), none, [24]⟩,
    ⟨some 9, .alloc [.i .i64 0, .i .i64 0, .i .i64 0, .i .i64 0, .i .i64 0, .i .i64 0, .i .i64 0, .i .i64 0, .l .y 1 [], .l .y 1 [], .l .y 1 []], none, []⟩,
    ⟨none, .sto 11 true (.t 9) (.t 25), none, [25]⟩])
  (.seq (.reg 7 none [⟨some 26, .mv (.t 2), none, []⟩,
    ⟨some 27, .ld (some 11) (.t 8), none, []⟩,
    ⟨some 28, .ld (some 11) (.t 9), none, []⟩,
    ⟨some 29, .dyn (.t 26) [(g_impl_itemSame, F_impl_itemSame)] [(.S, (.t 27)), (.S, (.t 28))], none, [8, 9, 26, 27, 28]⟩,
    ⟨some 30, .un .not (.t 29), none, [29]⟩])
  (.cond (.t 30) (.seq (.reg 8 none [⟨some 6, .asg (.k (.b false)), none, [1, 2, 15, 16, 17, 30]⟩])
  .ret) .sk)))))
  (.reg 9 none [⟨some 31, .bin .add .o (.t 17) (.k (.i .i64 1)), none, [17, 30]⟩,
    ⟨some 17, .mv (.t 31), none, [31]⟩])))))))
  (.seq (.reg 10 none [⟨some 6, .asg (.k (.b true)), none, [1, 2, 15, 16, 17, 18]⟩])
  .ret))))
  res := [.tmp 6]
  ptrs := []
  ar := 3
noncomputable def F_slices_EqualFunc_Simpl_Item : Fun := lock (denF m_slices_EqualFunc_Simpl_Item)
def m_impl_agentSame : MFun where
  code := (.seq (.reg 0 none [⟨some 2, .box true (.t 0), none, [0]⟩,
    ⟨some 3, .box true (.t 1), none, [1]⟩,
    ⟨some 4, .asg (.k (.b false)), none, [4]⟩])
  (.seq (.reg 1 none [⟨some 5, .fa (.t 2) 0, none, []⟩,
    ⟨some 6, .ld none (.t 5), none, [5]⟩,
    ⟨some 7, .fa (.t 3) 0, none, []⟩,
    ⟨some 8, .ld none (.t 7), none, [7]⟩,
    ⟨some 9, .bin .eql .o (.t 6) (.t 8), none, [6, 8]⟩,
    ⟨some 10, .mv (.t 9), none, [9]⟩,
    ⟨some 11, .fa (.t 2) 1, some (10, true), []⟩,
    ⟨some 12, .ld none (.t 11), some (10, true), [11]⟩,
    ⟨some 13, .fa (.t 3) 1, some (10, true), []⟩,
    ⟨some 14, .ld none (.t 13), some (10, true), [13]⟩,
    ⟨some 15, .bin .eql .o (.t 12) (.t 14), some (10, true), [12, 14]⟩,
    ⟨some 16, .pick (.t 10) (.t 15) (.k (.b false)), none, [10, 15]⟩,
    ⟨some 17, .mv (.t 16), none, [16]⟩,
    ⟨some 18, .fa (.t 2) 2, some (17, true), []⟩,
    ⟨some 19, .ld none (.t 18), some (17, true), [18]⟩,
    ⟨some 20, .fa (.t 3) 2, some (17, true), []⟩,
    ⟨some 21, .ld none (.t 20), some (17, true), [20]⟩,
    ⟨some 22, .bin .eql .b (.t 19) (.t 21), some (17, true), [19, 21]⟩,
    ⟨some 23, .pick (.t 17) (.t 22) (.k (.b false)), none, [17, 22]⟩,
    ⟨some 24, .mv (.t 23), none, [23]⟩,
    ⟨some 25, .fa (.t 2) 3, some (24, true), []⟩,
    ⟨some 26, .ld none (.t 25), some (24, true), [25]⟩,
    ⟨some 27, .fa (.t 3) 3, some (24, true), []⟩,
    ⟨some 28, .ld none (.t 27), some (24, true), [27]⟩,
    ⟨some 29, .bin .eql .o (.t 26) (.t 28), some (24, true), [26, 28]⟩,
    ⟨some 30, .pick (.t 24) (.t 29) (.k (.b false)), none, [24, 29]⟩,
    ⟨some 31, .mv (.t 30), none, [30]⟩,
    ⟨some 32, .fa (.t 2) 4, some (31, true), []⟩,
    ⟨some 33, .ld none (.t 32), some (31, true), [32]⟩,
    ⟨some 34, .fa (.t 3) 4, some (31, true), []⟩,
    ⟨some 35, .ld none (.t 34), some (31, true), [34]⟩,
    ⟨some 36, .call g_slices_EqualFunc_Simpl_Item F_slices_EqualFunc_Simpl_Item [(.S, (.t 33)), (.S, (.t 35)), (.S, (.k (.f g_impl_itemSame [])))], some (31, true), [33, 35]⟩,
    ⟨some 37, .pick (.t 31) (.t 36) (.k (.b false)), none, [31, 36]⟩,
    ⟨some 38, .mv (.t 37), none, [37]⟩,
    ⟨some 39, .fa (.t 2) 5, some (38, true), []⟩,
    ⟨some 40, .ld none (.t 39), some (38, true), [39]⟩,
    ⟨some 41, .fa (.t 3) 5, some (38, true), []⟩,
    ⟨some 42, .ld none (.t 41), some (38, true), [41]⟩,
    ⟨some 43, .call g_slices_Equal_Simpl_Span F_slices_Equal_Simpl_Span [(.S, (.t 40)), (.S, (.t 42))], some (38, true), [40, 42]⟩,
    ⟨some 44, .pick (.t 38) (.t 43) (.k (.b false)), none, [38, 43]⟩,
    ⟨some 45, .mv (.t 44), none, [44]⟩,
    ⟨some 46, .fa (.t 2) 6, some (45, true), []⟩,
    ⟨some 47, .ld none (.t 46), some (45, true), [2, 46]⟩,
    ⟨some 48, .fa (.t 3) 6, some (45, true), []⟩,
    ⟨some 49, .ld none (.t 48), some (45, true), [3, 48]⟩,
    ⟨some 50, .bin .eql .o (.t 47) (.t 49), some (45, true), [47, 49]⟩,
    ⟨some 51, .pick (.t 45) (.t 50) (.k (.b false)), none, [45, 50]⟩,
    ⟨some 4, .asg (.t 51), none, [51]⟩])
  .ret))
  res := [.tmp 4]
  ptrs := []
  ar := 2
noncomputable def F_impl_agentSame : Fun := lock (denF m_impl_agentSame)
def m_slices_EqualFunc_Simpl_Agent : MFun where
  code := (.seq (.reg 0 none [⟨some 6, .asg (.k (.b false)), none, [6]⟩])
  (.seq (.seq (.reg 1 none [⟨some 10, .mv (.t 0), none, []⟩,
    ⟨some 11, .len false (.t 10), none, [10]⟩,
    ⟨some 12, .mv (.t 1), none, []⟩,
    ⟨some 13, .len false (.t 12), none, [12]⟩,
    ⟨some 14, .bin .neq .o (.t 11) (.t 13), none, [11, 13]⟩])
  (.cond (.t 14) (.seq (.reg 2 none [⟨some 6, .asg (.k (.b false)), none, [0, 1, 2, 14]⟩])
  .ret) .sk))
  (.seq (.seq (.reg 3 none [⟨some 15, .mv (.t 0), none, [0, 14]⟩,
    ⟨some 16, .len false (.t 15), none, []⟩,
    ⟨some 17, .mv (.k (.i .i64 0)), none, []⟩])
  (.blk 0 (.loop [1, 2, 15, 16, 17] (.seq (.reg 4 none [⟨some 18, .bin .lss .o (.t 17) (.t 16), none, []⟩])
  (.seq (.cond (.t 18) .sk (.exit 0))
  (.seq (.blk 1 (.seq (.reg 5 none [⟨some 19, .mv (.t 17), none, [18]⟩,
    ⟨some 20, .ia 7 (.t 15) (.t 17), none, []⟩,
    ⟨some 21, .ld (some 7) (.t 20), none, [20]⟩,
    ⟨some 8, .alloc [.i .i64 0, .i .i64 0, .b false, .i .i64 0, .l .y 11 [], .l .y 2 [], .i .i64 0], none, []⟩,
    ⟨some 7, .asg (.t 19), none, [19]⟩,
    ⟨none, .sto 7 true (.t 8) (.t 21), none, [21]⟩])
  (.seq (.reg 6 none [⟨some 22, .mv (.t 1), none, []⟩,
    ⟨some 23, .mv (.t 7), none, [7]⟩,
    ⟨some 24, .ia 7 (.t 22) (.t 23), none, [22, 23]⟩,
    ⟨some 25, .ld (some 7) (.t 24), none, [24]⟩,
    ⟨some 9, .alloc [.i .i64 0, .i .i64 0, .b false, .i .i64 0, .l .y 11 [], .l .y 2 [], .i .i64 0], none, []⟩,
    ⟨none, .sto 7 true (.t 9) (.t 25), none, [25]⟩])
  (.seq (.reg 7 none [⟨some 26, .mv (.t 2), none, []⟩,
    ⟨some 27, .ld (some 7) (.t 8), none, []⟩,
    ⟨some 28, .ld (some 7) (.t 9), none, []⟩,
    ⟨some 29, .dyn (.t 26) [(g_impl_agentSame, F_impl_agentSame)] [(.S, (.t 27)), (.S, (.t 28))], none, [8, 9, 26, 27, 28]⟩,
    ⟨some 30, .un .not (.t 29), none, [29]⟩])
  (.cond (.t 30) (.seq (.reg 8 none [⟨some 6, .asg (.k (.b false)), none, [1, 2, 15, 16, 17, 30]⟩])
  .ret) .sk)))))
  (.reg 9 none [⟨some 31, .bin .add .o (.t 17) (.k (.i .i64 1)), none, [17, 30]⟩,
    ⟨some 17, .mv (.t 31), none, [31]⟩])))))))
  (.seq (.reg 10 none [⟨some 6, .asg (.k (.b true)), none, [1, 2, 15, 16, 17, 18]⟩])
  .ret))))
  res := [.tmp 6]
  ptrs := []
  ar := 3
noncomputable def F_slices_EqualFunc_Simpl_Agent : Fun := lock (denF m_slices_EqualFunc_Simpl_Agent)
def m_bytes_Equal : MFun where
  code := (.seq (.reg 0 none [⟨some 4, .asg (.k (.b false)), none, [4]⟩])
  (.seq (.reg 1 none [⟨some 5, .mv (.t 0), none, [0]⟩,
    ⟨some 6, .toStr (.t 5), none, [5]⟩,
    ⟨some 7, .mv (.t 1), none, [1]⟩,
    ⟨some 8, .toStr (.t 7), none, [7]⟩,
    ⟨some 9, .bin .eql .o (.t 6) (.t 8), none, [6, 8]⟩,
    ⟨some 4, .asg (.t 9), none, [9]⟩])
  .ret))
  res := [.tmp 4]
  ptrs := []
  ar := 2
noncomputable def F_bytes_Equal : Fun := lock (denF m_bytes_Equal)
def m_impl_packSame : MFun where
  code := (.seq (.reg 0 none [⟨some 2, .box true (.t 0), none, [0]⟩,
    ⟨some 3, .box true (.t 1), none, [1]⟩,
    ⟨some 4, .asg (.k (.b false)), none, [4]⟩])
  (.seq (.reg 1 none [⟨some 5, .fa (.t 2) 0, none, []⟩,
    ⟨some 6, .ld none (.t 5), none, [5]⟩,
    ⟨some 7, .fa (.t 3) 0, none, []⟩,
    ⟨some 8, .ld none (.t 7), none, [7]⟩,
    ⟨some 9, .bin .eql .o (.t 6) (.t 8), none, [6, 8]⟩,
    ⟨some 10, .mv (.t 9), none, [9]⟩,
    ⟨some 11, .fa (.t 2) 1, some (10, true), []⟩,
    ⟨some 12, .ld none (.t 11), some (10, true), [11]⟩,
    ⟨some 13, .fa (.t 3) 1, some (10, true), []⟩,
    ⟨some 14, .ld none (.t 13), some (10, true), [13]⟩,
    ⟨some 15, .call g_bytes_Equal F_bytes_Equal [(.S, (.t 12)), (.S, (.t 14))], some (10, true), [12, 14]⟩,
    ⟨some 16, .pick (.t 10) (.t 15) (.k (.b false)), none, [10, 15]⟩,
    ⟨some 17, .mv (.t 16), none, [16]⟩,
    ⟨some 18, .fa (.t 2) 2, some (17, true), []⟩,
    ⟨some 19, .ld none (.t 18), some (17, true), [2, 18]⟩,
    ⟨some 20, .fa (.t 3) 2, some (17, true), []⟩,
    ⟨some 21, .ld none (.t 20), some (17, true), [3, 20]⟩,
    ⟨some 22, .bin .eql .b (.t 19) (.t 21), some (17, true), [19, 21]⟩,
    ⟨some 23, .pick (.t 17) (.t 22) (.k (.b false)), none, [17, 22]⟩,
    ⟨some 4, .asg (.t 23), none, [23]⟩])
  .ret))
  res := [.tmp 4]
  ptrs := []
  ar := 2
noncomputable def F_impl_packSame : Fun := lock (denF m_impl_packSame)
def m_slices_EqualFunc_Simpl_Pack : MFun where
  code := (.seq (.reg 0 none [⟨some 6, .asg (.k (.b false)), none, [6]⟩])
  (.seq (.seq (.reg 1 none [⟨some 10, .mv (.t 0), none, []⟩,
    ⟨some 11, .len false (.t 10), none, [10]⟩,
    ⟨some 12, .mv (.t 1), none, []⟩,
    ⟨some 13, .len false (.t 12), none, [12]⟩,
    ⟨some 14, .bin .neq .o (.t 11) (.t 13), none, [11, 13]⟩])
  (.cond (.t 14) (.seq (.reg 2 none [⟨some 6, .asg (.k (.b false)), none, [0, 1, 2, 14]⟩])
  .ret) .sk))
  (.seq (.seq (.reg 3 none [⟨some 15, .mv (.t 0), none, [0, 14]⟩,
    ⟨some 16, .len false (.t 15), none, []⟩,
    ⟨some 17, .mv (.k (.i .i64 0)), none, []⟩])
  (.blk 0 (.loop [1, 2, 15, 16, 17] (.seq (.reg 4 none [⟨some 18, .bin .lss .o (.t 17) (.t 16), none, []⟩])
  (.seq (.cond (.t 18) .sk (.exit 0))
  (.seq (.blk 1 (.seq (.reg 5 none [⟨some 19, .mv (.t 17), none, [18]⟩,
    ⟨some 20, .ia 3 (.t 15) (.t 17), none, []⟩,
    ⟨some 21, .ld (some 3) (.t 20), none, [20]⟩,
    ⟨some 8, .alloc [.i .i64 0, .l .y 1 [], .b false], none, []⟩,
    ⟨some 7, .asg (.t 19), none, [19]⟩,
    ⟨none, .sto 3 true (.t 8) (.t 21), none, [21]⟩])
  (.seq (.reg 6 none [⟨some 22, .mv (.t 1), none, []⟩,
    ⟨some 23, .mv (.t 7), none, [7]⟩,
    ⟨some 24, .ia 3 (.t 22) (.t 23), none, [22, 23]⟩,
    ⟨some 25, .ld (some 3) (.t 24), none, [24]⟩,
    ⟨some 9, .alloc [.i .i64 0, .l .y 1 [], .b false], none, []⟩,
    ⟨none, .sto 3 true (.t 9) (.t 25), none, [25]⟩])
  (.seq (.reg 7 none [⟨some 26, .mv (.t 2), none, []⟩,
    ⟨some 27, .ld (some 3) (.t 8), none, []⟩,
    ⟨some 28, .ld (some 3) (.t 9), none, []⟩,
    ⟨some 29, .dyn (.t 26) [(g_impl_packSame, F_impl_packSame)] [(.S, (.t 27)), (.S, (.t 28))], none, [8, 9, 26, 27, 28]⟩,
    ⟨some 30, .un .not (.t 29), none, [29]⟩])
  (.cond (.t 30) (.seq (.reg 8 none [⟨some 6, .asg (.k (.b false)), none, [1, 2, 15, 16, 17, 30]⟩])
  .ret) .sk)))))
  (.reg 9 none [⟨some 31, .bin .add .o (.t 17) (.k (.i .i64 1)), none, [17, 30]⟩,
    ⟨some 17, .mv (.t 31), none, [31]⟩])))))))
  (.seq (.reg 10 none [⟨some 6, .asg (.k (.b true)), none, [1, 2, 15, 16, 17, 18]⟩])
  .ret))))
  res := [.tmp 6]
  ptrs := []
  ar := 3
noncomputable def F_slices_EqualFunc_Simpl_Pack : Fun := lock (denF m_slices_EqualFunc_Simpl_Pack)
def m_impl_WorldSame : MFun where
  code := (.seq (.reg 0 none [⟨some 2, .box true (.t 0), none, [0]⟩,
    ⟨some 3, .box true (.t 1), none, [1]⟩,
    ⟨some 4, .asg (.k (.b false)), none, [4]⟩])
  (.seq (.reg 1 none [⟨some 5, .fa (.t 2) 0, none, []⟩,
    ⟨some 6, .ld none (.t 5), none, [5]⟩,
    ⟨some 7, .fa (.t 3) 0, none, []⟩,
    ⟨some 8, .ld none (.t 7), none, [7]⟩,
    ⟨some 9, .call g_slices_EqualFunc_Simpl_Agent F_slices_EqualFunc_Simpl_Agent [(.S, (.t 6)), (.S, (.t 8)), (.S, (.k (.f g_impl_agentSame [])))], none, [6, 8]⟩,
    ⟨some 10, .mv (.t 9), none, [9]⟩,
    ⟨some 11, .fa (.t 2) 1, some (10, true), []⟩,
    ⟨some 12, .ld (some 16) (.t 11), some (10, true), [11]⟩,
    ⟨some 13, .fa (.t 3) 1, some (10, true), []⟩,
    ⟨some 14, .ld (some 16) (.t 13), some (10, true), [13]⟩,
    ⟨some 15, .call g_impl_HouseSame F_impl_HouseSame [(.S, (.t 12)), (.S, (.t 14))], some (10, true), [12, 14]⟩,
    ⟨some 16, .pick (.t 10) (.t 15) (.k (.b false)), none, [10, 15]⟩,
    ⟨some 17, .mv (.t 16), none, [16]⟩,
    ⟨some 18, .fa (.t 2) 17, some (17, true), []⟩,
    ⟨some 19, .ld none (.t 18), some (17, true), [18]⟩,
    ⟨some 20, .fa (.t 3) 17, some (17, true), []⟩,
    ⟨some 21, .ld none (.t 20), some (17, true), [20]⟩,
    ⟨some 22, .call g_slices_EqualFunc_Simpl_Pack F_slices_EqualFunc_Simpl_Pack [(.S, (.t 19)), (.S, (.t 21)), (.S, (.k (.f g_impl_packSame [])))], some (17, true), [2, 3, 19, 21]⟩,
    ⟨some 23, .pick (.t 17) (.t 22) (.k (.b false)), none, [17, 22]⟩,
    ⟨some 4, .asg (.t 23), none, [23]⟩])
  .ret))
  res := [.tmp 4]
  ptrs := []
  ar := 2
noncomputable def F_impl_WorldSame : Fun := lock (denF m_impl_WorldSame)
def m_laws_eqIntS : MFun where
  code := (.seq (.reg 0 none [⟨some 4, .asg (.k (.b false)), none, [4]⟩])
  (.seq (.seq (.reg 1 none [⟨some 6, .mv (.t 0), none, []⟩,
    ⟨some 7, .len false (.t 6), none, [6]⟩,
    ⟨some 8, .mv (.t 1), none, []⟩,
    ⟨some 9, .len false (.t 8), none, [8]⟩,
    ⟨some 10, .bin .neq .o (.t 7) (.t 9), none, [7, 9]⟩])
  (.cond (.t 10) (.seq (.reg 2 none [⟨some 4, .asg (.k (.b false)), none, [0, 1, 10]⟩])
  .ret) .sk))
  (.seq (.seq (.reg 3 none [⟨some 5, .asg (.k (.i .i64 0)), none, [10]⟩])
  (.blk 0 (.loop [0, 1, 5] (.seq (.seq (.reg 4 none [⟨some 11, .mv (.t 5), none, []⟩,
    ⟨some 12, .mv (.t 0), none, []⟩,
    ⟨some 13, .len false (.t 12), none, [12]⟩,
    ⟨some 14, .bin .lss .o (.t 11) (.t 13), none, [11, 13]⟩])
  (.cond (.t 14) .sk (.exit 0)))
  (.seq (.blk 1 (.seq (.reg 6 (some [([0, 14, 17], [14, 17]), ([5, 18], [18]), ([17, 18, 19], [17, 18, 19]), ([19, 20], [19, 20]), ([1, 21], [21]), ([5, 22], [22]), ([21, 22, 23], [21, 22, 23]), ([23, 24], [23, 24]), ([20, 24, 25], [20, 24, 25])]) [⟨some 17, .mv (.t 0), none, [14]⟩,
    ⟨some 18, .mv (.t 5), none, []⟩,
    ⟨some 19, .ia 1 (.t 17) (.t 18), none, [17, 18]⟩,
    ⟨some 20, .ld none (.t 19), none, [19]⟩,
    ⟨some 21, .mv (.t 1), none, []⟩,
    ⟨some 22, .mv (.t 5), none, []⟩,
    ⟨some 23, .ia 1 (.t 21) (.t 22), none, [21, 22]⟩,
    ⟨some 24, .ld none (.t 23), none, [23]⟩,
    ⟨some 25, .bin .neq .o (.t 20) (.t 24), none, [20, 24]⟩])
  (.cond (.t 25) (.seq (.reg 7 none [⟨some 4, .asg (.k (.b false)), none, [0, 1, 5, 25]⟩])
  .ret) .sk)))
  (.reg 5 none [⟨some 15, .mv (.t 5), none, [5, 25]⟩,
    ⟨some 16, .bin .add .o (.t 15) (.k (.i .i64 1)), none, [15]⟩,
    ⟨some 5, .asg (.t 16), none, [16]⟩]))))))
  (.seq (.reg 8 none [⟨some 4, .asg (.k (.b true)), none, [0, 1, 5, 14]⟩])
  .ret))))
  res := [.tmp 4]
  ptrs := []
  ar := 2
noncomputable def F_laws_eqIntS : Fun := lock (denF m_laws_eqIntS)
def m_laws_eqIntSS : MFun where
  code := (.seq (.reg 0 none [⟨some 4, .asg (.k (.b false)), none, [4]⟩])
  (.seq (.seq (.reg 1 none [⟨some 6, .mv (.t 0), none, []⟩,
    ⟨some 7, .len false (.t 6), none, [6]⟩,
    ⟨some 8, .mv (.t 1), none, []⟩,
    ⟨some 9, .len false (.t 8), none, [8]⟩,
    ⟨some 10, .bin .neq .o (.t 7) (.t 9), none, [7, 9]⟩])
  (.cond (.t 10) (.seq (.reg 2 none [⟨some 4, .asg (.k (.b false)), none, [0, 1, 10]⟩])
  .ret) .sk))
  (.seq (.seq (.reg 3 none [⟨some 5, .asg (.k (.i .i64 0)), none, [10]⟩])
  (.blk 0 (.loop [0, 1, 5] (.seq (.seq (.reg 4 none [⟨some 11, .mv (.t 5), none, []⟩,
    ⟨some 12, .mv (.t 0), none, []⟩,
    ⟨some 13, .len false (.t 12), none, [12]⟩,
    ⟨some 14, .bin .lss .o (.t 11) (.t 13), none, [11, 13]⟩])
  (.cond (.t 14) .sk (.exit 0)))
  (.seq (.blk 1 (.seq (.reg 6 (some [([0, 14, 17], [14, 17]), ([5, 18], [18]), ([17, 18, 19], [17, 18, 19]), ([19, 20], [19, 20]), ([1, 21], [21]), ([5, 22], [22]), ([21, 22, 23], [21, 22, 23]), ([23, 24], [23, 24]), ([20, 24, 25], [20, 24, 25]), ([25, 26], [25, 26])]) [⟨some 17, .mv (.t 0), none, [14]⟩,
    ⟨some 18, .mv (.t 5), none, []⟩,
    ⟨some 19, .ia 1 (.t 17) (.t 18), none, [17, 18]⟩,
    ⟨some 20, .ld none (.t 19), none, [19]⟩,
    ⟨some 21, .mv (.t 1), none, []⟩,
    ⟨some 22, .mv (.t 5), none, []⟩,
    ⟨some 23, .ia 1 (.t 21) (.t 22), none, [21, 22]⟩,
    ⟨some 24, .ld none (.t 23), none, [23]⟩,
    ⟨some 25, .call g_laws_eqIntS F_laws_eqIntS [(.S, (.t 20)), (.S, (.t 24))], none, [20, 24]⟩,
    ⟨some 26, .un .not (.t 25), none, [25]⟩])
  (.cond (.t 26) (.seq (.reg 7 none [⟨some 4, .asg (.k (.b false)), none, [0, 1, 5, 26]⟩])
  .ret) .sk)))
  (.reg 5 none [⟨some 15, .mv (.t 5), none, [5, 26]⟩,
    ⟨some 16, .bin .add .o (.t 15) (.k (.i .i64 1)), none, [15]⟩,
    ⟨some 5, .asg (.t 16), none, [16]⟩]))))))
  (.seq (.reg 8 none [⟨some 4, .asg (.k (.b true)), none, [0, 1, 5, 14]⟩])
  .ret))))
  res := [.tmp 4]
  ptrs := []
  ar := 2
noncomputable def F_laws_eqIntSS : Fun := lock (denF m_laws_eqIntSS)
def m_laws_eqSketch : MFun where
  code := (.seq (.reg 0 none [⟨some 2, .box true (.t 0), none, [0]⟩,
    ⟨some 3, .box true (.t 1), none, [1]⟩,
    ⟨some 4, .asg (.k (.b false)), none, [4]⟩])
  (.seq (.seq (.reg 1 none [⟨some 5, .fa (.t 2) 0, none, []⟩,
    ⟨some 6, .ld none (.t 5), none, [5]⟩,
    ⟨some 7, .fa (.t 3) 0, none, []⟩,
    ⟨some 8, .ld none (.t 7), none, [7]⟩,
    ⟨some 9, .bin .neq .o (.t 6) (.t 8), none, [6, 8]⟩])
  (.cond (.t 9) (.seq (.reg 2 none [⟨some 4, .asg (.k (.b false)), none, [2, 3, 9]⟩])
  .ret) .sk))
  (.seq (.seq (.reg 3 none [⟨some 10, .fa (.t 2) 1, none, [9]⟩,
    ⟨some 11, .ld none (.t 10), none, [10]⟩,
    ⟨some 12, .fa (.t 3) 1, none, []⟩,
    ⟨some 13, .ld none (.t 12), none, [12]⟩,
    ⟨some 14, .bin .neq .o (.t 11) (.t 13), none, [11, 13]⟩])
  (.cond (.t 14) (.seq (.reg 4 none [⟨some 4, .asg (.k (.b false)), none, [2, 3, 14]⟩])
  .ret) .sk))
  (.seq (.seq (.reg 5 none [⟨some 15, .fa (.t 2) 2, none, [14]⟩,
    ⟨some 16, .ld none (.t 15), none, [15]⟩,
    ⟨some 17, .fa (.t 3) 2, none, []⟩,
    ⟨some 18, .ld none (.t 17), none, [17]⟩,
    ⟨some 19, .bin .neq .o (.t 16) (.t 18), none, [16, 18]⟩])
  (.cond (.t 19) (.seq (.reg 6 none [⟨some 4, .asg (.k (.b false)), none, [2, 3, 19]⟩])
  .ret) .sk))
  (.seq (.seq (.reg 7 none [⟨some 20, .fa (.t 2) 3, none, [19]⟩,
    ⟨some 21, .ld none (.t 20), none, [20]⟩,
    ⟨some 22, .fa (.t 3) 3, none, []⟩,
    ⟨some 23, .ld none (.t 22), none, [22]⟩,
    ⟨some 24, .bin .neq .o (.t 21) (.t 23), none, [21, 23]⟩])
  (.cond (.t 24) (.seq (.reg 8 none [⟨some 4, .asg (.k (.b false)), none, [2, 3, 24]⟩])
  .ret) .sk))
  (.seq (.seq (.reg 9 none [⟨some 25, .fa (.t 2) 4, none, [24]⟩,
    ⟨some 26, .ld none (.t 25), none, [25]⟩,
    ⟨some 27, .fa (.t 3) 4, none, []⟩,
    ⟨some 28, .ld none (.t 27), none, [27]⟩,
    ⟨some 29, .call g_laws_eqIntS F_laws_eqIntS [(.S, (.t 26)), (.S, (.t 28))], none, [26, 28]⟩,
    ⟨some 30, .un .not (.t 29), none, [29]⟩])
  (.cond (.t 30) (.seq (.reg 10 none [⟨some 4, .asg (.k (.b false)), none, [2, 3, 30]⟩])
  .ret) .sk))
  (.seq (.seq (.reg 11 none [⟨some 31, .fa (.t 2) 5, none, [30]⟩,
    ⟨some 32, .ld none (.t 31), none, [31]⟩,
    ⟨some 33, .fa (.t 3) 5, none, []⟩,
    ⟨some 34, .ld none (.t 33), none, [33]⟩,
    ⟨some 35, .call g_laws_eqIntS F_laws_eqIntS [(.S, (.t 32)), (.S, (.t 34))], none, [32, 34]⟩,
    ⟨some 36, .un .not (.t 35), none, [35]⟩])
  (.cond (.t 36) (.seq (.reg 12 none [⟨some 4, .asg (.k (.b false)), none, [2, 3, 36]⟩])
  .ret) .sk))
  (.seq (.seq (.reg 13 none [⟨some 37, .fa (.t 2) 6, none, [36]⟩,
    ⟨some 38, .ld none (.t 37), none, [37]⟩,
    ⟨some 39, .fa (.t 3) 6, none, []⟩,
    ⟨some 40, .ld none (.t 39), none, [39]⟩,
    ⟨some 41, .call g_laws_eqIntSS F_laws_eqIntSS [(.S, (.t 38)), (.S, (.t 40))], none, [2, 3, 38, 40]⟩,
    ⟨some 42, .un .not (.t 41), none, [41]⟩])
  (.cond (.t 42) (.seq (.reg 14 none [⟨some 4, .asg (.k (.b false)), none, [42]⟩])
  .ret) .sk))
  (.seq (.reg 15 none [⟨some 4, .asg (.k (.b true)), none, [42]⟩])
  .ret)))))))))
  res := [.tmp 4]
  ptrs := []
  ar := 2
noncomputable def F_laws_eqSketch : Fun := lock (denF m_laws_eqSketch)
def m_laws_eqItem : MFun where
  code := (.seq (.reg 0 none [⟨some 2, .box true (.t 0), none, [0]⟩,
    ⟨some 3, .box true (.t 1), none, [1]⟩,
    ⟨some 4, .asg (.k (.b false)), none, [4]⟩])
  (.seq (.seq (.reg 1 none [⟨some 5, .fa (.t 2) 0, none, []⟩,
    ⟨some 6, .ld none (.t 5), none, [5]⟩,
    ⟨some 7, .fa (.t 3) 0, none, []⟩,
    ⟨some 8, .ld none (.t 7), none, [7]⟩,
    ⟨some 9, .bin .neq .o (.t 6) (.t 8), none, [6, 8]⟩])
  (.cond (.t 9) (.seq (.reg 2 none [⟨some 4, .asg (.k (.b false)), none, [2, 3, 9]⟩])
  .ret) .sk))
  (.seq (.seq (.reg 3 none [⟨some 10, .fa (.t 2) 1, none, [9]⟩,
    ⟨some 11, .ld none (.t 10), none, [10]⟩,
    ⟨some 12, .fa (.t 3) 1, none, []⟩,
    ⟨some 13, .ld none (.t 12), none, [12]⟩,
    ⟨some 14, .bin .neq .o (.t 11) (.t 13), none, [11, 13]⟩])
  (.cond (.t 14) (.seq (.reg 4 none [⟨some 4, .asg (.k (.b false)), none, [2, 3, 14]⟩])
  .ret) .sk))
  (.seq (.seq (.reg 5 none [⟨some 15, .fa (.t 2) 2, none, [14]⟩,
    ⟨some 16, .ld none (.t 15), none, [15]⟩,
    ⟨some 17, .fa (.t 3) 2, none, []⟩,
    ⟨some 18, .ld none (.t 17), none, [17]⟩,
    ⟨some 19, .bin .neq .o (.t 16) (.t 18), none, [16, 18]⟩])
  (.cond (.t 19) (.seq (.reg 6 none [⟨some 4, .asg (.k (.b false)), none, [2, 3, 19]⟩])
  .ret) .sk))
  (.seq (.seq (.reg 7 none [⟨some 20, .fa (.t 2) 3, none, [19]⟩,
    ⟨some 21, .ld none (.t 20), none, [20]⟩,
    ⟨some 22, .fa (.t 3) 3, none, []⟩,
    ⟨some 23, .ld none (.t 22), none, [22]⟩,
    ⟨some 24, .bin .neq .o (.t 21) (.t 23), none, [21, 23]⟩])
  (.cond (.t 24) (.seq (.reg 8 none [⟨some 4, .asg (.k (.b false)), none, [2, 3, 24]⟩])
  .ret) .sk))
  (.seq (.seq (.reg 9 none [⟨some 25, .fa (.t 2) 4, none, [24]⟩,
    ⟨some 26, .ld (some 7) (.t 25), none, [25]⟩,
    ⟨some 27, .fa (.t 3) 4, none, []⟩,
    ⟨some 28, .ld (some 7) (.t 27), none, [27]⟩,
    ⟨some 29, .call g_laws_eqSketch F_laws_eqSketch [(.S, (.t 26)), (.S, (.t 28))], none, [2, 3, 26, 28]⟩,
    ⟨some 30, .un .not (.t 29), none, [29]⟩])
  (.cond (.t 30) (.seq (.reg 10 none [⟨some 4, .asg (.k (.b false)), none, [30]⟩])
  .ret) .sk))
  (.seq (.reg 11 none [⟨some 4, .asg (.k (.b true)), none, [30]⟩])
  .ret)))))))
  res := [.tmp 4]
  ptrs := []
  ar := 2
noncomputable def F_laws_eqItem : Fun := lock (denF m_laws_eqItem)
def m_laws_eqItemS : MFun where
  code := (.seq (.reg 0 none [⟨some 4, .asg (.k (.b false)), none, [4]⟩])
  (.seq (.seq (.reg 1 none [⟨some 6, .mv (.t 0), none, []⟩,
    ⟨some 7, .len false (.t 6), none, [6]⟩,
    ⟨some 8, .mv (.t 1), none, []⟩,
    ⟨some 9, .len false (.t 8), none, [8]⟩,
    ⟨some 10, .bin .neq .o (.t 7) (.t 9), none, [7, 9]⟩])
  (.cond (.t 10) (.seq (.reg 2 none [⟨some 4, .asg (.k (.b false)), none, [0, 1, 10]⟩])
  .ret) .sk))
  (.seq (.seq (.reg 3 none [⟨some 5, .asg (.k (.i .i64 0)), none, [10]⟩])
  (.blk 0 (.loop [0, 1, 5] (.seq (.seq (.reg 4 none [⟨some 11, .mv (.t 5), none, []⟩,
    ⟨some 12, .mv (.t 0), none, []⟩,
    ⟨some 13, .len false (.t 12), none, [12]⟩,
    ⟨some 14, .bin .lss .o (.t 11) (.t 13), none, [11, 13]⟩])
  (.cond (.t 14) .sk (.exit 0)))
  (.seq (.blk 1 (.seq (.reg 6 (some [([0, 14, 17], [14, 17]), ([5, 18], [18]), ([17, 18, 19], [17, 18, 19]), ([19, 20], [19, 20]), ([1, 21], [21]), ([5, 22], [22]), ([21, 22, 23], [21, 22, 23]), ([23, 24], [23, 24]), ([20, 24, 25], [20, 24, 25]), ([25, 26], [25, 26])]) [⟨some 17, .mv (.t 0), none, [14]⟩,
    ⟨some 18, .mv (.t 5), none, []⟩,
    ⟨some 19, .ia 11 (.t 17) (.t 18), none, [17, 18]⟩,
    ⟨some 20, .ld (some 11) (.t 19), none, [19]⟩,
    ⟨some 21, .mv (.t 1), none, []⟩,
    ⟨some 22, .mv (.t 5), none, []⟩,
    ⟨some 23, .ia 11 (.t 21) (.t 22), none, [21, 22]⟩,
    ⟨some 24, .ld (some 11) (.t 23), none, [23]⟩,
    ⟨some 25, .call g_laws_eqItem F_laws_eqItem [(.S, (.t 20)), (.S, (.t 24))], none, [20, 24]⟩,
    ⟨some 26, .un .not (.t 25), none, [25]⟩])
  (.cond (.t 26) (.seq (.reg 7 none [⟨some 4, .asg (.k (.b false)), none, [0, 1, 5, 26]⟩])
  .ret) .sk)))
  (.reg 5 none [⟨some 15, .mv (.t 5), none, [5, 26]⟩,
    ⟨some 16, .bin .add .o (.t 15) (.k (.i .i64 1)), none, [15]⟩,
    ⟨some 5, .asg (.t 16), none, [16]⟩]))))))
  (.seq (.reg 8 none [⟨some 4, .asg (.k (.b true)), none, [0, 1, 5, 14]⟩])
  .ret))))
  res := [.tmp 4]
  ptrs := []
  ar := 2
noncomputable def F_laws_eqItemS : Fun := lock (denF m_laws_eqItemS)
def m_laws_eqSpan : MFun where
  code := (.seq (.reg 0 none [⟨some 2, .box true (.t 0), none, [0]⟩,
    ⟨some 3, .box true (.t 1), none, [1]⟩,
    ⟨some 4, .asg (.k (.b false)), none, [4]⟩])
  (.seq (.seq (.reg 1 none [⟨some 5, .fa (.t 2) 0, none, []⟩,
    ⟨some 6, .ld none (.t 5), none, [5]⟩,
    ⟨some 7, .fa (.t 3) 0, none, []⟩,
    ⟨some 8, .ld none (.t 7), none, [7]⟩,
    ⟨some 9, .bin .neq .o (.t 6) (.t 8), none, [6, 8]⟩])
  (.cond (.t 9) (.seq (.reg 2 none [⟨some 4, .asg (.k (.b false)), none, [2, 3, 9]⟩])
  .ret) .sk))
  (.seq (.seq (.reg 3 none [⟨some 10, .fa (.t 2) 1, none, [9]⟩,
    ⟨some 11, .ld none (.t 10), none, [2, 10]⟩,
    ⟨some 12, .fa (.t 3) 1, none, []⟩,
    ⟨some 13, .ld none (.t 12), none, [3, 12]⟩,
    ⟨some 14, .bin .neq .o (.t 11) (.t 13), none, [11, 13]⟩])
  (.cond (.t 14) (.seq (.reg 4 none [⟨some 4, .asg (.k (.b false)), none, [14]⟩])
  .ret) .sk))
  (.seq (.reg 5 none [⟨some 4, .asg (.k (.b true)), none, [14]⟩])
  .ret))))
  res := [.tmp 4]
  ptrs := []
  ar := 2
noncomputable def F_laws_eqSpan : Fun := lock (denF m_laws_eqSpan)
def m_laws_eqSpanS : MFun where
  code := (.seq (.reg 0 none [⟨some 4, .asg (.k (.b false)), none, [4]⟩])
  (.seq (.seq (.reg 1 none [⟨some 6, .mv (.t 0), none, []⟩,
    ⟨some 7, .len false (.t 6), none, [6]⟩,
    ⟨some 8, .mv (.t 1), none, []⟩,
    ⟨some 9, .len false (.t 8), none, [8]⟩,
    ⟨some 10, .bin .neq .o (.t 7) (.t 9), none, [7, 9]⟩])
  (.cond (.t 10) (.seq (.reg 2 none [⟨some 4, .asg (.k (.b false)), none, [0, 1, 10]⟩])
  .ret) .sk))
  (.seq (.seq (.reg 3 none [⟨some 5, .asg (.k (.i .i64 0)), none, [10]⟩])
  (.blk 0 (.loop [0, 1, 5] (.seq (.seq (.reg 4 none [⟨some 11, .mv (.t 5), none, []⟩,
    ⟨some 12, .mv (.t 0), none, []⟩,
    ⟨some 13, .len false (.t 12), none, [12]⟩,
    ⟨some 14, .bin .lss .o (.t 11) (.t 13), none, [11, 13]⟩])
  (.cond (.t 14) .sk (.exit 0)))
  (.seq (.blk 1 (.seq (.reg 6 (some [([0, 14, 17], [14, 17]), ([5, 18], [18]), ([17, 18, 19], [17, 18, 19]), ([19, 20], [19, 20]), ([1, 21], [21]), ([5, 22], [22]), ([21, 22, 23], [21, 22, 23]), ([23, 24], [23, 24]), ([20, 24, 25], [20, 24, 25]), ([25, 26], [25, 26])]) [⟨some 17, .mv (.t 0), none, [14]⟩,
    ⟨some 18, .mv (.t 5), none, []⟩,
    ⟨some 19, .ia 2 (.t 17) (.t 18), none, [17, 18]⟩,
    ⟨some 20, .ld (some 2) (.t 19), none, [19]⟩,
    ⟨some 21, .mv (.t 1), none, []⟩,
    ⟨some 22, .mv (.t 5), none, []⟩,
    ⟨some 23, .ia 2 (.t 21) (.t 22), none, [21, 22]⟩,
    ⟨some 24, .ld (some 2) (.t 23), none, [23]⟩,
    ⟨some 25, .call g_laws_eqSpan F_laws_eqSpan [(.S, (.t 20)), (.S, (.t 24))], none, [20, 24]⟩,
    ⟨some 26, .un .not (.t 25), none, [25]⟩])
  (.cond (.t 26) (.seq (.reg 7 none [⟨some 4, .asg (.k (.b false)), none, [0, 1, 5, 26]⟩])
  .ret) .sk)))
  (.reg 5 none [⟨some 15, .mv (.t 5), none, [5, 26]⟩,
    ⟨some 16, .bin .add .o (.t 15) (.k (.i .i64 1)), none, [15]⟩,
    ⟨some 5, .asg (.t 16), none, [16]⟩]))))))
  (.seq (.reg 8 none [⟨some 4, .asg (.k (.b true)), none, [0, 1, 5, 14]⟩])
  .ret))))
  res := [.tmp 4]
  ptrs := []
  ar := 2
noncomputable def F_laws_eqSpanS : Fun := lock (denF m_laws_eqSpanS)
def m_laws_eqAgent : MFun where
  code := (.seq (.reg 0 none [⟨some 2, .box true (.t 0), none, [0]⟩,
    ⟨some 3, .box true (.t 1), none, [1]⟩,
    ⟨some 4, .asg (.k (.b false)), none, [4]⟩])
  (.seq (.seq (.reg 1 none [⟨some 5, .fa (.t 2) 0, none, []⟩,
    ⟨some 6, .ld none (.t 5), none, [5]⟩,
    ⟨some 7, .fa (.t 3) 0, none, []⟩,
    ⟨some 8, .ld none (.t 7), none, [7]⟩,
    ⟨some 9, .bin .neq .o (.t 6) (.t 8), none, [6, 8]⟩])
  (.cond (.t 9) (.seq (.reg 2 none [⟨some 4, .asg (.k (.b false)), none, [2, 3, 9]⟩])
  .ret) .sk))
  (.seq (.seq (.reg 3 none [⟨some 10, .fa (.t 2) 1, none, [9]⟩,
    ⟨some 11, .ld none (.t 10), none, [10]⟩,
    ⟨some 12, .fa (.t 3) 1, none, []⟩,
    ⟨some 13, .ld none (.t 12), none, [12]⟩,
    ⟨some 14, .bin .neq .o (.t 11) (.t 13), none, [11, 13]⟩])
  (.cond (.t 14) (.seq (.reg 4 none [⟨some 4, .asg (.k (.b false)), none, [2, 3, 14]⟩])
  .ret) .sk))
  (.seq (.seq (.reg 5 none [⟨some 15, .fa (.t 2) 2, none, [14]⟩,
    ⟨some 16, .ld none (.t 15), none, [15]⟩,
    ⟨some 17, .fa (.t 3) 2, none, []⟩,
    ⟨some 18, .ld none (.t 17), none, [17]⟩,
    ⟨some 19, .bin .neq .b (.t 16) (.t 18), none, [16, 18]⟩])
  (.cond (.t 19) (.seq (.reg 6 none [⟨some 4, .asg (.k (.b false)), none, [2, 3, 19]⟩])
  .ret) .sk))
  (.seq (.seq (.reg 7 none [⟨some 20, .fa (.t 2) 3, none, [19]⟩,
    ⟨some 21, .ld none (.t 20), none, [20]⟩,
    ⟨some 22, .fa (.t 3) 3, none, []⟩,
    ⟨some 23, .ld none (.t 22), none, [22]⟩,
    ⟨some 24, .bin .neq .o (.t 21) (.t 23), none, [21, 23]⟩])
  (.cond (.t 24) (.seq (.reg 8 none [⟨some 4, .asg (.k (.b false)), none, [2, 3, 24]⟩])
  .ret) .sk))
  (.seq (.seq (.reg 9 none [⟨some 25, .fa (.t 2) 4, none, [24]⟩,
    ⟨some 26, .ld none (.t 25), none, [25]⟩,
    ⟨some 27, .fa (.t 3) 4, none, []⟩,
    ⟨some 28, .ld none (.t 27), none, [27]⟩,
    ⟨some 29, .call g_laws_eqItemS F_laws_eqItemS [(.S, (.t 26)), (.S, (.t 28))], none, [26, 28]⟩,
    ⟨some 30, .un .not (.t 29), none, [29]⟩])
  (.cond (.t 30) (.seq (.reg 10 none [⟨some 4, .asg (.k (.b false)), none, [2, 3, 30]⟩])
  .ret) .sk))
  (.seq (.seq (.reg 11 none [⟨some 31, .fa (.t 2) 5, none, [30]⟩,
    ⟨some 32, .ld none (.t 31), none, [31]⟩,
    ⟨some 33, .fa (.t 3) 5, none, []⟩,
    ⟨some 34, .ld none (.t 33), none, [33]⟩,
    ⟨some 35, .call g_laws_eqSpanS F_laws_eqSpanS [(.S, (.t 32)), (.S, (.t 34))], none, [32, 34]⟩,
    ⟨some 36, .un .not (.t 35), none, [35]⟩])
  (.cond (.t 36) (.seq (.reg 12 none [⟨some 4, .asg (.k (.b false)), none, [2, 3, 36]⟩])
  .ret) .sk))
  (.seq (.seq (.reg 13 none [⟨some 37, .fa (.t 2) 6, none, [36]⟩,
    ⟨some 38, .ld none (.t 37), none, [2, 37]⟩,
    ⟨some 39, .fa (.t 3) 6, none, []⟩,
    ⟨some 40, .ld none (.t 39), none, [3, 39]⟩,
    ⟨some 41, .bin .neq .o (.t 38) (.t 40), none, [38, 40]⟩])
  (.cond (.t 41) (.seq (.reg 14 none [⟨some 4, .asg (.k (.b false)), none, [41]⟩])
  .ret) .sk))
  (.seq (.reg 15 none [⟨some 4, .asg (.k (.b true)), none, [41]⟩])
  .ret)))))))))
  res := [.tmp 4]
  ptrs := []
  ar := 2
noncomputable def F_laws_eqAgent : Fun := lock (denF m_laws_eqAgent)
def m_laws_eqAgentS : MFun where
  code := (.seq (.reg 0 none [⟨some 4, .asg (.k (.b false)), none, [4]⟩])
  (.seq (.seq (.reg 1 none [⟨some 6, .mv (.t 0), none, []⟩,
    ⟨some 7, .len false (.t 6), none, [6]⟩,
    ⟨some 8, .mv (.t 1), none, []⟩,
    ⟨some 9, .len false (.t 8), none, [8]⟩,
    ⟨some 10, .bin .neq .o (.t 7) (.t 9), none, [7, 9]⟩])
  (.cond (.t 10) (.seq (.reg 2 none [⟨some 4, .asg (.k (.b false)), none, [0, 1, 10]⟩])
  .ret) .sk))
  (.seq (.seq (.reg 3 none [⟨some 5, .asg (.k (.i .i64 0)), none, [10]⟩])
  (.blk 0 (.loop [0, 1, 5] (.seq (.seq (.reg 4 none [⟨some 11, .mv (.t 5), none, []⟩,
    ⟨some 12, .mv (.t 0), none, []⟩,
    ⟨some 13, .len false (.t 12), none, [12]⟩,
    ⟨some 14, .bin .lss .o (.t 11) (.t 13), none, [11, 13]⟩])
  (.cond (.t 14) .sk (.exit 0)))
  (.seq (.blk 1 (.seq (.reg 6 (some [([0, 14, 17], [14, 17]), ([5, 18], [18]), ([17, 18, 19], [17, 18, 19]), ([19, 20], [19, 20]), ([1, 21], [21]), ([5, 22], [22]), ([21, 22, 23], [21, 22, 23]), ([23, 24], [23, 24]), ([20, 24, 25], [20, 24, 25]), ([25, 26], [25, 26])]) [⟨some 17, .mv (.t 0), none, [14]⟩,
    ⟨some 18, .mv (.t 5), none, []⟩,
    ⟨some 19, .ia 7 (.t 17) (.t 18), none, [17, 18]⟩,
    ⟨some 20, .ld (some 7) (.t 19), none, [19]⟩,
    ⟨some 21, .mv (.t 1), none, []⟩,
    ⟨some 22, .mv (.t 5), none, []⟩,
    ⟨some 23, .ia 7 (.t 21) (.t 22), none, [21, 22]⟩,
    ⟨some 24, .ld (some 7) (.t 23), none, [23]⟩,
    ⟨some 25, .call g_laws_eqAgent F_laws_eqAgent [(.S, (.t 20)), (.S, (.t 24))], none, [20, 24]⟩,
    ⟨some 26, .un .not (.t 25), none, [25]⟩])
  (.cond (.t 26) (.seq (.reg 7 none [⟨some 4, .asg (.k (.b false)), none, [0, 1, 5, 26]⟩])
  .ret) .sk)))
  (.reg 5 none [⟨some 15, .mv (.t 5), none, [5, 26]⟩,
    ⟨some 16, .bin .add .o (.t 15) (.k (.i .i64 1)), none, [15]⟩,
    ⟨some 5, .asg (.t 16), none, [16]⟩]))))))
  (.seq (.reg 8 none [⟨some 4, .asg (.k (.b true)), none, [0, 1, 5, 14]⟩])
  .ret))))
  res := [.tmp 4]
  ptrs := []
  ar := 2
noncomputable def F_laws_eqAgentS : Fun := lock (denF m_laws_eqAgentS)
def m_laws_eqConf : MFun where
  code := (.seq (.reg 0 none [⟨some 2, .box true (.t 0), none, [0]⟩,
    ⟨some 3, .box true (.t 1), none, [1]⟩,
    ⟨some 4, .asg (.k (.b false)), none, [4]⟩])
  (.seq (.seq (.reg 1 none [⟨some 5, .fa (.t 2) 0, none, []⟩,
    ⟨some 6, .ld none (.t 5), none, [5]⟩,
    ⟨some 7, .fa (.t 3) 0, none, []⟩,
    ⟨some 8, .ld none (.t 7), none, [7]⟩,
    ⟨some 9, .bin .neq .o (.t 6) (.t 8), none, [6, 8]⟩])
  (.cond (.t 9) (.seq (.reg 2 none [⟨some 4, .asg (.k (.b false)), none, [2, 3, 9]⟩])
  .ret) .sk))
  (.seq (.seq (.reg 3 none [⟨some 10, .fa (.t 2) 1, none, [9]⟩,
    ⟨some 11, .ld none (.t 10), none, [10]⟩,
    ⟨some 12, .fa (.t 3) 1, none, []⟩,
    ⟨some 13, .ld none (.t 12), none, [12]⟩,
    ⟨some 14, .bin .neq .o (.t 11) (.t 13), none, [11, 13]⟩])
  (.cond (.t 14) (.seq (.reg 4 none [⟨some 4, .asg (.k (.b false)), none, [2, 3, 14]⟩])
  .ret) .sk))
  (.seq (.seq (.reg 5 none [⟨some 15, .fa (.t 2) 2, none, [14]⟩,
    ⟨some 16, .ld none (.t 15), none, [15]⟩,
    ⟨some 17, .fa (.t 3) 2, none, []⟩,
    ⟨some 18, .ld none (.t 17), none, [17]⟩,
    ⟨some 19, .bin .neq .o (.t 16) (.t 18), none, [16, 18]⟩])
  (.cond (.t 19) (.seq (.reg 6 none [⟨some 4, .asg (.k (.b false)), none, [2, 3, 19]⟩])
  .ret) .sk))
  (.seq (.seq (.reg 7 none [⟨some 20, .fa (.t 2) 3, none, [19]⟩,
    ⟨some 21, .ld none (.t 20), none, [20]⟩,
    ⟨some 22, .fa (.t 3) 3, none, []⟩,
    ⟨some 23, .ld none (.t 22), none, [22]⟩,
    ⟨some 24, .call g_laws_eqIntS F_laws_eqIntS [(.S, (.t 21)), (.S, (.t 23))], none, [21, 23]⟩,
    ⟨some 25, .un .not (.t 24), none, [24]⟩])
  (.cond (.t 25) (.seq (.reg 8 none [⟨some 4, .asg (.k (.b false)), none, [2, 3, 25]⟩])
  .ret) .sk))
  (.seq (.seq (.reg 9 none [⟨some 26, .fa (.t 2) 4, none, [25]⟩,
    ⟨some 27, .ld none (.t 26), none, [26]⟩,
    ⟨some 28, .fa (.t 3) 4, none, []⟩,
    ⟨some 29, .ld none (.t 28), none, [28]⟩,
    ⟨some 30, .bin .neq .o (.t 27) (.t 29), none, [27, 29]⟩])
  (.cond (.t 30) (.seq (.reg 10 none [⟨some 4, .asg (.k (.b false)), none, [2, 3, 30]⟩])
  .ret) .sk))
  (.seq (.seq (.reg 11 none [⟨some 31, .fa (.t 2) 5, none, [30]⟩,
    ⟨some 32, .ld none (.t 31), none, [31]⟩,
    ⟨some 33, .fa (.t 3) 5, none, []⟩,
    ⟨some 34, .ld none (.t 33), none, [33]⟩,
    ⟨some 35, .bin .neq .o (.t 32) (.t 34), none, [32, 34]⟩])
  (.cond (.t 35) (.seq (.reg 12 none [⟨some 4, .asg (.k (.b false)), none, [2, 3, 35]⟩])
  .ret) .sk))
  (.seq (.seq (.reg 13 none [⟨some 36, .fa (.t 2) 6, none, [35]⟩,
    ⟨some 37, .ld none (.t 36), none, [36]⟩,
    ⟨some 38, .fa (.t 3) 6, none, []⟩,
    ⟨some 39, .ld none (.t 38), none, [38]⟩,
    ⟨some 40, .bin .neq .o (.t 37) (.t 39), none, [37, 39]⟩])
  (.cond (.t 40) (.seq (.reg 14 none [⟨some 4, .asg (.k (.b false)), none, [2, 3, 40]⟩])
  .ret) .sk))
  (.seq (.seq (.reg 15 none [⟨some 41, .fa (.t 2) 7, none, [40]⟩,
    ⟨some 42, .ld none (.t 41), none, [2, 41]⟩,
    ⟨some 43, .fa (.t 3) 7, none, []⟩,
    ⟨some 44, .ld none (.t 43), none, [3, 43]⟩,
    ⟨some 45, .bin .neq .o (.t 42) (.t 44), none, [42, 44]⟩])
  (.cond (.t 45) (.seq (.reg 16 none [⟨some 4, .asg (.k (.b false)), none, [45]⟩])
  .ret) .sk))
  (.seq (.reg 17 none [⟨some 4, .asg (.k (.b true)), none, [45]⟩])
  .ret))))))))))
  res := [.tmp 4]
  ptrs := []
  ar := 2
noncomputable def F_laws_eqConf : Fun := lock (denF m_laws_eqConf)
def m_laws_eqEntry : MFun where
  code := (.seq (.reg 0 none [⟨some 2, .box true (.t 0), none, [0]⟩,
    ⟨some 3, .box true (.t 1), none, [1]⟩,
    ⟨some 4, .asg (.k (.b false)), none, [4]⟩])
  (.seq (.seq (.reg 1 none [⟨some 5, .fa (.t 2) 0, none, []⟩,
    ⟨some 6, .ld none (.t 5), none, [5]⟩,
    ⟨some 7, .fa (.t 3) 0, none, []⟩,
    ⟨some 8, .ld none (.t 7), none, [7]⟩,
    ⟨some 9, .bin .neq .o (.t 6) (.t 8), none, [6, 8]⟩])
  (.cond (.t 9) (.seq (.reg 2 none [⟨some 4, .asg (.k (.b false)), none, [2, 3, 9]⟩])
  .ret) .sk))
  (.seq (.seq (.reg 3 none [⟨some 10, .fa (.t 2) 1, none, [9]⟩,
    ⟨some 11, .ld none (.t 10), none, [10]⟩,
    ⟨some 12, .fa (.t 3) 1, none, []⟩,
    ⟨some 13, .ld none (.t 12), none, [12]⟩,
    ⟨some 14, .bin .neq .o (.t 11) (.t 13), none, [11, 13]⟩])
  (.cond (.t 14) (.seq (.reg 4 none [⟨some 4, .asg (.k (.b false)), none, [2, 3, 14]⟩])
  .ret) .sk))
  (.seq (.seq (.reg 5 none [⟨some 15, .fa (.t 2) 2, none, [14]⟩,
    ⟨some 16, .ld none (.t 15), none, [15]⟩,
    ⟨some 17, .fa (.t 3) 2, none, []⟩,
    ⟨some 18, .ld none (.t 17), none, [17]⟩,
    ⟨some 19, .call g_laws_eqSpanS F_laws_eqSpanS [(.S, (.t 16)), (.S, (.t 18))], none, [16, 18]⟩,
    ⟨some 20, .un .not (.t 19), none, [19]⟩])
  (.cond (.t 20) (.seq (.reg 6 none [⟨some 4, .asg (.k (.b false)), none, [2, 3, 20]⟩])
  .ret) .sk))
  (.seq (.seq (.reg 7 none [⟨some 21, .fa (.t 2) 3, none, [20]⟩,
    ⟨some 22, .ld (some 7) (.t 21), none, [21]⟩,
    ⟨some 23, .fa (.t 3) 3, none, []⟩,
    ⟨some 24, .ld (some 7) (.t 23), none, [23]⟩,
    ⟨some 25, .call g_laws_eqSketch F_laws_eqSketch [(.S, (.t 22)), (.S, (.t 24))], none, [2, 3, 22, 24]⟩,
    ⟨some 26, .un .not (.t 25), none, [25]⟩])
  (.cond (.t 26) (.seq (.reg 8 none [⟨some 4, .asg (.k (.b false)), none, [26]⟩])
  .ret) .sk))
  (.seq (.reg 9 none [⟨some 4, .asg (.k (.b true)), none, [26]⟩])
  .ret))))))
  res := [.tmp 4]
  ptrs := []
  ar := 2
noncomputable def F_laws_eqEntry : Fun := lock (denF m_laws_eqEntry)
def m_laws_eqEntryS : MFun where
  code := (.seq (.reg 0 none [⟨some 4, .asg (.k (.b false)), none, [4]⟩])
  (.seq (.seq (.reg 1 none [⟨some 6, .mv (.t 0), none, []⟩,
    ⟨some 7, .len false (.t 6), none, [6]⟩,
    ⟨some 8, .mv (.t 1), none, []⟩,
    ⟨some 9, .len false (.t 8), none, [8]⟩,
    ⟨some 10, .bin .neq .o (.t 7) (.t 9), none, [7, 9]⟩])
  (.cond (.t 10) (.seq (.reg 2 none [⟨some 4, .asg (.k (.b false)), none, [0, 1, 10]⟩])
  .ret) .sk))
  (.seq (.seq (.reg 3 none [⟨some 5, .asg (.k (.i .i64 0)), none, [10]⟩])
  (.blk 0 (.loop [0, 1, 5] (.seq (.seq (.reg 4 none [⟨some 11, .mv (.t 5), none, []⟩,
    ⟨some 12, .mv (.t 0), none, []⟩,
    ⟨some 13, .len false (.t 12), none, [12]⟩,
    ⟨some 14, .bin .lss .o (.t 11) (.t 13), none, [11, 13]⟩])
  (.cond (.t 14) .sk (.exit 0)))
  (.seq (.blk 1 (.seq (.reg 6 (some [([0, 14, 17], [14, 17]), ([5, 18], [18]), ([17, 18, 19], [17, 18, 19]), ([19, 20], [19, 20]), ([1, 21], [21]), ([5, 22], [22]), ([21, 22, 23], [21, 22, 23]), ([23, 24], [23, 24]), ([20, 24, 25], [20, 24, 25]), ([25, 26], [25, 26])]) [⟨some 17, .mv (.t 0), none, [14]⟩,
    ⟨some 18, .mv (.t 5), none, []⟩,
    ⟨some 19, .ia 10 (.t 17) (.t 18), none, [17, 18]⟩,
    ⟨some 20, .ld (some 10) (.t 19), none, [19]⟩,
    ⟨some 21, .mv (.t 1), none, []⟩,
    ⟨some 22, .mv (.t 5), none, []⟩,
    ⟨some 23, .ia 10 (.t 21) (.t 22), none, [21, 22]⟩,
    ⟨some 24, .ld (some 10) (.t 23), none, [23]⟩,
    ⟨some 25, .call g_laws_eqEntry F_laws_eqEntry [(.S, (.t 20)), (.S, (.t 24))], none, [20, 24]⟩,
    ⟨some 26, .un .not (.t 25), none, [25]⟩])
  (.cond (.t 26) (.seq (.reg 7 none [⟨some 4, .asg (.k (.b false)), none, [0, 1, 5, 26]⟩])
  .ret) .sk)))
  (.reg 5 none [⟨some 15, .mv (.t 5), none, [5, 26]⟩,
    ⟨some 16, .bin .add .o (.t 15) (.k (.i .i64 1)), none, [15]⟩,
    ⟨some 5, .asg (.t 16), none, [16]⟩]))))))
  (.seq (.reg 8 none [⟨some 4, .asg (.k (.b true)), none, [0, 1, 5, 14]⟩])
  .ret))))
  res := [.tmp 4]
  ptrs := []
  ar := 2
noncomputable def F_laws_eqEntryS : Fun := lock (denF m_laws_eqEntryS)
def m_laws_eqOut : MFun where
  code := (.seq (.reg 0 none [⟨some 2, .box true (.t 0), none, [0]⟩,
    ⟨some 3, .box true (.t 1), none, [1]⟩,
    ⟨some 4, .asg (.k (.b false)), none, [4]⟩])
  (.seq (.seq (.reg 1 none [⟨some 5, .fa (.t 2) 0, none, []⟩,
    ⟨some 6, .ld none (.t 5), none, [5]⟩,
    ⟨some 7, .fa (.t 3) 0, none, []⟩,
    ⟨some 8, .ld none (.t 7), none, [7]⟩,
    ⟨some 9, .bin .neq .o (.t 6) (.t 8), none, [6, 8]⟩])
  (.cond (.t 9) (.seq (.reg 2 none [⟨some 4, .asg (.k (.b false)), none, [2, 3, 9]⟩])
  .ret) .sk))
  (.seq (.seq (.reg 3 none [⟨some 10, .fa (.t 2) 1, none, [9]⟩,
    ⟨some 11, .ld (some 10) (.t 10), none, [10]⟩,
    ⟨some 12, .fa (.t 3) 1, none, []⟩,
    ⟨some 13, .ld (some 10) (.t 12), none, [12]⟩,
    ⟨some 14, .call g_laws_eqEntry F_laws_eqEntry [(.S, (.t 11)), (.S, (.t 13))], none, [2, 3, 11, 13]⟩,
    ⟨some 15, .un .not (.t 14), none, [14]⟩])
  (.cond (.t 15) (.seq (.reg 4 none [⟨some 4, .asg (.k (.b false)), none, [15]⟩])
  .ret) .sk))
  (.seq (.reg 5 none [⟨some 4, .asg (.k (.b true)), none, [15]⟩])
  .ret))))
  res := [.tmp 4]
  ptrs := []
  ar := 2
noncomputable def F_laws_eqOut : Fun := lock (denF m_laws_eqOut)
def m_laws_eqOutS : MFun where
  code := (.seq (.reg 0 none [⟨some 4, .asg (.k (.b false)), none, [4]⟩])
  (.seq (.seq (.reg 1 none [⟨some 6, .mv (.t 0), none, []⟩,
    ⟨some 7, .len false (.t 6), none, [6]⟩,
    ⟨some 8, .mv (.t 1), none, []⟩,
    ⟨some 9, .len false (.t 8), none, [8]⟩,
    ⟨some 10, .bin .neq .o (.t 7) (.t 9), none, [7, 9]⟩])
  (.cond (.t 10) (.seq (.reg 2 none [⟨some 4, .asg (.k (.b false)), none, [0, 1, 10]⟩])
  .ret) .sk))
  (.seq (.seq (.reg 3 none [⟨some 5, .asg (.k (.i .i64 0)), none, [10]⟩])
  (.blk 0 (.loop [0, 1, 5] (.seq (.seq (.reg 4 none [⟨some 11, .mv (.t 5), none, []⟩,
    ⟨some 12, .mv (.t 0), none, []⟩,
    ⟨some 13, .len false (.t 12), none, [12]⟩,
    ⟨some 14, .bin .lss .o (.t 11) (.t 13), none, [11, 13]⟩])
  (.cond (.t 14) .sk (.exit 0)))
  (.seq (.blk 1 (.seq (.reg 6 (some [([0, 14, 17], [14, 17]), ([5, 18], [18]), ([17, 18, 19], [17, 18, 19]), ([19, 20], [19, 20]), ([1, 21], [21]), ([5, 22], [22]), ([21, 22, 23], [21, 22, 23]), ([23, 24], [23, 24]), ([20, 24, 25], [20, 24, 25]), ([25, 26], [25, 26])]) [⟨some 17, .mv (.t 0), none, [14]⟩,
    ⟨some 18, .mv (.t 5), none, []⟩,
    ⟨some 19, .ia 11 (.t 17) (.t 18), none, [17, 18]⟩,
    ⟨some 20, .ld (some 11) (.t 19), none, [19]⟩,
    ⟨some 21, .mv (.t 1), none, []⟩,
    ⟨some 22, .mv (.t 5), none, []⟩,
    ⟨some 23, .ia 11 (.t 21) (.t 22), none, [21, 22]⟩,
    ⟨some 24, .ld (some 11) (.t 23), none, [23]⟩,
    ⟨some 25, .call g_laws_eqOut F_laws_eqOut [(.S, (.t 20)), (.S, (.t 24))], none, [20, 24]⟩,
    ⟨some 26, .un .not (.t 25), none, [25]⟩])
  (.cond (.t 26) (.seq (.reg 7 none [⟨some 4, .asg (.k (.b false)), none, [0, 1, 5, 26]⟩])
  .ret) .sk)))
  (.reg 5 none [⟨some 15, .mv (.t 5), none, [5, 26]⟩,
    ⟨some 16, .bin .add .o (.t 15) (.k (.i .i64 1)), none, [15]⟩,
    ⟨some 5, .asg (.t 16), none, [16]⟩]))))))
  (.seq (.reg 8 none [⟨some 4, .asg (.k (.b true)), none, [0, 1, 5, 14]⟩])
  .ret))))
  res := [.tmp 4]
  ptrs := []
  ar := 2
noncomputable def F_laws_eqOutS : Fun := lock (denF m_laws_eqOutS)
def m_laws_eqRow : MFun where
  code := (.seq (.reg 0 none [⟨some 2, .box true (.t 0), none, [0]⟩,
    ⟨some 3, .box true (.t 1), none, [1]⟩,
    ⟨some 4, .asg (.k (.b false)), none, [4]⟩])
  (.seq (.seq (.reg 1 none [⟨some 5, .fa (.t 2) 0, none, []⟩,
    ⟨some 6, .ld none (.t 5), none, [5]⟩,
    ⟨some 7, .fa (.t 3) 0, none, []⟩,
    ⟨some 8, .ld none (.t 7), none, [7]⟩,
    ⟨some 9, .call g_laws_eqEntryS F_laws_eqEntryS [(.S, (.t 6)), (.S, (.t 8))], none, [2, 3, 6, 8]⟩,
    ⟨some 10, .un .not (.t 9), none, [9]⟩])
  (.cond (.t 10) (.seq (.reg 2 none [⟨some 4, .asg (.k (.b false)), none, [10]⟩])
  .ret) .sk))
  (.seq (.reg 3 none [⟨some 4, .asg (.k (.b true)), none, [10]⟩])
  .ret)))
  res := [.tmp 4]
  ptrs := []
  ar := 2
noncomputable def F_laws_eqRow : Fun := lock (denF m_laws_eqRow)
def m_laws_eqRowS : MFun where
  code := (.seq (.reg 0 none [⟨some 4, .asg (.k (.b false)), none, [4]⟩])
  (.seq (.seq (.reg 1 none [⟨some 6, .mv (.t 0), none, []⟩,
    ⟨some 7, .len false (.t 6), none, [6]⟩,
    ⟨some 8, .mv (.t 1), none, []⟩,
    ⟨some 9, .len false (.t 8), none, [8]⟩,
    ⟨some 10, .bin .neq .o (.t 7) (.t 9), none, [7, 9]⟩])
  (.cond (.t 10) (.seq (.reg 2 none [⟨some 4, .asg (.k (.b false)), none, [0, 1, 10]⟩])
  .ret) .sk))
  (.seq (.seq (.reg 3 none [⟨some 5, .asg (.k (.i .i64 0)), none, [10]⟩])
  (.blk 0 (.loop [0, 1, 5] (.seq (.seq (.reg 4 none [⟨some 11, .mv (.t 5), none, []⟩,
    ⟨some 12, .mv (.t 0), none, []⟩,
    ⟨some 13, .len false (.t 12), none, [12]⟩,
    ⟨some 14, .bin .lss .o (.t 11) (.t 13), none, [11, 13]⟩])
  (.cond (.t 14) .sk (.exit 0)))
  (.seq (.blk 1 (.seq (.reg 6 (some [([0, 14, 17], [14, 17]), ([5, 18], [18]), ([17, 18, 19], [17, 18, 19]), ([19, 20], [19, 20]), ([1, 21], [21]), ([5, 22], [22]), ([21, 22, 23], [21, 22, 23]), ([23, 24], [23, 24]), ([20, 24, 25], [20, 24, 25]), ([25, 26], [25, 26])]) [⟨some 17, .mv (.t 0), none, [14]⟩,
    ⟨some 18, .mv (.t 5), none, []⟩,
    ⟨some 19, .ia 1 (.t 17) (.t 18), none, [17, 18]⟩,
    ⟨some 20, .ld (some 1) (.t 19), none, [19]⟩,
    ⟨some 21, .mv (.t 1), none, []⟩,
    ⟨some 22, .mv (.t 5), none, []⟩,
    ⟨some 23, .ia 1 (.t 21) (.t 22), none, [21, 22]⟩,
    ⟨some 24, .ld (some 1) (.t 23), none, [23]⟩,
    ⟨some 25, .call g_laws_eqRow F_laws_eqRow [(.S, (.t 20)), (.S, (.t 24))], none, [20, 24]⟩,
    ⟨some 26, .un .not (.t 25), none, [25]⟩])
  (.cond (.t 26) (.seq (.reg 7 none [⟨some 4, .asg (.k (.b false)), none, [0, 1, 5, 26]⟩])
  .ret) .sk)))
  (.reg 5 none [⟨some 15, .mv (.t 5), none, [5, 26]⟩,
    ⟨some 16, .bin .add .o (.t 15) (.k (.i .i64 1)), none, [15]⟩,
    ⟨some 5, .asg (.t 16), none, [16]⟩]))))))
  (.seq (.reg 8 none [⟨some 4, .asg (.k (.b true)), none, [0, 1, 5, 14]⟩])
  .ret))))
  res := [.tmp 4]
  ptrs := []
  ar := 2
noncomputable def F_laws_eqRowS : Fun := lock (denF m_laws_eqRowS)
def m_laws_eqRowSS : MFun where
  code := (.seq (.reg 0 none [⟨some 4, .asg (.k (.b false)), none, [4]⟩])
  (.seq (.seq (.reg 1 none [⟨some 6, .mv (.t 0), none, []⟩,
    ⟨some 7, .len false (.t 6), none, [6]⟩,
    ⟨some 8, .mv (.t 1), none, []⟩,
    ⟨some 9, .len false (.t 8), none, [8]⟩,
    ⟨some 10, .bin .neq .o (.t 7) (.t 9), none, [7, 9]⟩])
  (.cond (.t 10) (.seq (.reg 2 none [⟨some 4, .asg (.k (.b false)), none, [0, 1, 10]⟩])
  .ret) .sk))
  (.seq (.seq (.reg 3 none [⟨some 5, .asg (.k (.i .i64 0)), none, [10]⟩])
  (.blk 0 (.loop [0, 1, 5] (.seq (.seq (.reg 4 none [⟨some 11, .mv (.t 5), none, []⟩,
    ⟨some 12, .mv (.t 0), none, []⟩,
    ⟨some 13, .len false (.t 12), none, [12]⟩,
    ⟨some 14, .bin .lss .o (.t 11) (.t 13), none, [11, 13]⟩])
  (.cond (.t 14) .sk (.exit 0)))
  (.seq (.blk 1 (.seq (.reg 6 (some [([0, 14, 17], [14, 17]), ([5, 18], [18]), ([17, 18, 19], [17, 18, 19]), ([19, 20], [19, 20]), ([1, 21], [21]), ([5, 22], [22]), ([21, 22, 23], [21, 22, 23]), ([23, 24], [23, 24]), ([20, 24, 25], [20, 24, 25]), ([25, 26], [25, 26])]) [⟨some 17, .mv (.t 0), none, [14]⟩,
    ⟨some 18, .mv (.t 5), none, []⟩,
    ⟨some 19, .ia 1 (.t 17) (.t 18), none, [17, 18]⟩,
    ⟨some 20, .ld none (.t 19), none, [19]⟩,
    ⟨some 21, .mv (.t 1), none, []⟩,
    ⟨some 22, .mv (.t 5), none, []⟩,
    ⟨some 23, .ia 1 (.t 21) (.t 22), none, [21, 22]⟩,
    ⟨some 24, .ld none (.t 23), none, [23]⟩,
    ⟨some 25, .call g_laws_eqRowS F_laws_eqRowS [(.S, (.t 20)), (.S, (.t 24))], none, [20, 24]⟩,
    ⟨some 26, .un .not (.t 25), none, [25]⟩])
  (.cond (.t 26) (.seq (.reg 7 none [⟨some 4, .asg (.k (.b false)), none, [0, 1, 5, 26]⟩])
  .ret) .sk)))
  (.reg 5 none [⟨some 15, .mv (.t 5), none, [5, 26]⟩,
    ⟨some 16, .bin .add .o (.t 15) (.k (.i .i64 1)), none, [15]⟩,
    ⟨some 5, .asg (.t 16), none, [16]⟩]))))))
  (.seq (.reg 8 none [⟨some 4, .asg (.k (.b true)), none, [0, 1, 5, 14]⟩])
  .ret))))
  res := [.tmp 4]
  ptrs := []
  ar := 2
noncomputable def F_laws_eqRowSS : Fun := lock (denF m_laws_eqRowSS)
def m_laws_eqSeat : MFun where
  code := (.seq (.reg 0 none [⟨some 2, .box true (.t 0), none, [0]⟩,
    ⟨some 3, .box true (.t 1), none, [1]⟩,
    ⟨some 4, .asg (.k (.b false)), none, [4]⟩])
  (.seq (.seq (.reg 1 none [⟨some 5, .fa (.t 2) 0, none, []⟩,
    ⟨some 6, .ld none (.t 5), none, [5]⟩,
    ⟨some 7, .fa (.t 3) 0, none, []⟩,
    ⟨some 8, .ld none (.t 7), none, [7]⟩,
    ⟨some 9, .bin .neq .o (.t 6) (.t 8), none, [6, 8]⟩])
  (.cond (.t 9) (.seq (.reg 2 none [⟨some 4, .asg (.k (.b false)), none, [2, 3, 9]⟩])
  .ret) .sk))
  (.seq (.seq (.reg 3 none [⟨some 10, .fa (.t 2) 1, none, [9]⟩,
    ⟨some 11, .ld none (.t 10), none, [10]⟩,
    ⟨some 12, .fa (.t 3) 1, none, []⟩,
    ⟨some 13, .ld none (.t 12), none, [12]⟩,
    ⟨some 14, .bin .neq .o (.t 11) (.t 13), none, [11, 13]⟩])
  (.cond (.t 14) (.seq (.reg 4 none [⟨some 4, .asg (.k (.b false)), none, [2, 3, 14]⟩])
  .ret) .sk))
  (.seq (.seq (.reg 5 none [⟨some 15, .fa (.t 2) 2, none, [14]⟩,
    ⟨some 16, .ld none (.t 15), none, [15]⟩,
    ⟨some 17, .fa (.t 3) 2, none, []⟩,
    ⟨some 18, .ld none (.t 17), none, [17]⟩,
    ⟨some 19, .call g_laws_eqSpanS F_laws_eqSpanS [(.S, (.t 16)), (.S, (.t 18))], none, [16, 18]⟩,
    ⟨some 20, .un .not (.t 19), none, [19]⟩])
  (.cond (.t 20) (.seq (.reg 6 none [⟨some 4, .asg (.k (.b false)), none, [2, 3, 20]⟩])
  .ret) .sk))
  (.seq (.seq (.reg 7 none [⟨some 21, .fa (.t 2) 3, none, [20]⟩,
    ⟨some 22, .ld none (.t 21), none, [21]⟩,
    ⟨some 23, .fa (.t 3) 3, none, []⟩,
    ⟨some 24, .ld none (.t 23), none, [23]⟩,
    ⟨some 25, .bin .neq .o (.t 22) (.t 24), none, [22, 24]⟩])
  (.cond (.t 25) (.seq (.reg 8 none [⟨some 4, .asg (.k (.b false)), none, [2, 3, 25]⟩])
  .ret) .sk))
  (.seq (.seq (.reg 9 none [⟨some 26, .fa (.t 2) 4, none, [25]⟩,
    ⟨some 27, .ld none (.t 26), none, [2, 26]⟩,
    ⟨some 28, .fa (.t 3) 4, none, []⟩,
    ⟨some 29, .ld none (.t 28), none, [3, 28]⟩,
    ⟨some 30, .bin .neq .o (.t 27) (.t 29), none, [27, 29]⟩])
  (.cond (.t 30) (.seq (.reg 10 none [⟨some 4, .asg (.k (.b false)), none, [30]⟩])
  .ret) .sk))
  (.seq (.reg 11 none [⟨some 4, .asg (.k (.b true)), none, [30]⟩])
  .ret)))))))
  res := [.tmp 4]
  ptrs := []
  ar := 2
noncomputable def F_laws_eqSeat : Fun := lock (denF m_laws_eqSeat)
def m_laws_eqSeatS : MFun where
  code := (.seq (.reg 0 none [⟨some 4, .asg (.k (.b false)), none, [4]⟩])
  (.seq (.seq (.reg 1 none [⟨some 6, .mv (.t 0), none, []⟩,
    ⟨some 7, .len false (.t 6), none, [6]⟩,
    ⟨some 8, .mv (.t 1), none, []⟩,
    ⟨some 9, .len false (.t 8), none, [8]⟩,
    ⟨some 10, .bin .neq .o (.t 7) (.t 9), none, [7, 9]⟩])
  (.cond (.t 10) (.seq (.reg 2 none [⟨some 4, .asg (.k (.b false)), none, [0, 1, 10]⟩])
  .ret) .sk))
  (.seq (.seq (.reg 3 none [⟨some 5, .asg (.k (.i .i64 0)), none, [10]⟩])
  (.blk 0 (.loop [0, 1, 5] (.seq (.seq (.reg 4 none [⟨some 11, .mv (.t 5), none, []⟩,
    ⟨some 12, .mv (.t 0), none, []⟩,
    ⟨some 13, .len false (.t 12), none, [12]⟩,
    ⟨some 14, .bin .lss .o (.t 11) (.t 13), none, [11, 13]⟩])
  (.cond (.t 14) .sk (.exit 0)))
  (.seq (.blk 1 (.seq (.reg 6 (some [([0, 14, 17], [14, 17]), ([5, 18], [18]), ([17, 18, 19], [17, 18, 19]), ([19, 20], [19, 20]), ([1, 21], [21]), ([5, 22], [22]), ([21, 22, 23], [21, 22, 23]), ([23, 24], [23, 24]), ([20, 24, 25], [20, 24, 25]), ([25, 26], [25, 26])]) [⟨some 17, .mv (.t 0), none, [14]⟩,
    ⟨some 18, .mv (.t 5), none, []⟩,
    ⟨some 19, .ia 5 (.t 17) (.t 18), none, [17, 18]⟩,
    ⟨some 20, .ld (some 5) (.t 19), none, [19]⟩,
    ⟨some 21, .mv (.t 1), none, []⟩,
    ⟨some 22, .mv (.t 5), none, []⟩,
    ⟨some 23, .ia 5 (.t 21) (.t 22), none, [21, 22]⟩,
    ⟨some 24, .ld (some 5) (.t 23), none, [23]⟩,
    ⟨some 25, .call g_laws_eqSeat F_laws_eqSeat [(.S, (.t 20)), (.S, (.t 24))], none, [20, 24]⟩,
    ⟨some 26, .un .not (.t 25), none, [25]⟩])
  (.cond (.t 26) (.seq (.reg 7 none [⟨some 4, .asg (.k (.b false)), none, [0, 1, 5, 26]⟩])
  .ret) .sk)))
  (.reg 5 none [⟨some 15, .mv (.t 5), none, [5, 26]⟩,
    ⟨some 16, .bin .add .o (.t 15) (.k (.i .i64 1)), none, [15]⟩,
    ⟨some 5, .asg (.t 16), none, [16]⟩]))))))
  (.seq (.reg 8 none [⟨some 4, .asg (.k (.b true)), none, [0, 1, 5, 14]⟩])
  .ret))))
  res := [.tmp 4]
  ptrs := []
  ar := 2
noncomputable def F_laws_eqSeatS : Fun := lock (denF m_laws_eqSeatS)
def m_laws_eqTurn : MFun where
  code := (.seq (.reg 0 none [⟨some 2, .box true (.t 0), none, [0]⟩,
    ⟨some 3, .box true (.t 1), none, [1]⟩,
    ⟨some 4, .asg (.k (.b false)), none, [4]⟩])
  (.seq (.seq (.reg 1 none [⟨some 5, .fa (.t 2) 0, none, []⟩,
    ⟨some 6, .ld none (.t 5), none, [5]⟩,
    ⟨some 7, .fa (.t 3) 0, none, []⟩,
    ⟨some 8, .ld none (.t 7), none, [7]⟩,
    ⟨some 9, .bin .neq .o (.t 6) (.t 8), none, [6, 8]⟩])
  (.cond (.t 9) (.seq (.reg 2 none [⟨some 4, .asg (.k (.b false)), none, [2, 3, 9]⟩])
  .ret) .sk))
  (.seq (.seq (.reg 3 none [⟨some 10, .fa (.t 2) 1, none, [9]⟩,
    ⟨some 11, .ld none (.t 10), none, [10]⟩,
    ⟨some 12, .fa (.t 3) 1, none, []⟩,
    ⟨some 13, .ld none (.t 12), none, [12]⟩,
    ⟨some 14, .bin .neq .b (.t 11) (.t 13), none, [11, 13]⟩])
  (.cond (.t 14) (.seq (.reg 4 none [⟨some 4, .asg (.k (.b false)), none, [2, 3, 14]⟩])
  .ret) .sk))
  (.seq (.seq (.reg 5 none [⟨some 15, .fa (.t 2) 2, none, [14]⟩,
    ⟨some 16, .ld none (.t 15), none, [15]⟩,
    ⟨some 17, .fa (.t 3) 2, none, []⟩,
    ⟨some 18, .ld none (.t 17), none, [17]⟩,
    ⟨some 19, .call g_laws_eqIntS F_laws_eqIntS [(.S, (.t 16)), (.S, (.t 18))], none, [2, 3, 16, 18]⟩,
    ⟨some 20, .un .not (.t 19), none, [19]⟩])
  (.cond (.t 20) (.seq (.reg 6 none [⟨some 4, .asg (.k (.b false)), none, [20]⟩])
  .ret) .sk))
  (.seq (.reg 7 none [⟨some 4, .asg (.k (.b true)), none, [20]⟩])
  .ret)))))
  res := [.tmp 4]
  ptrs := []
  ar := 2
noncomputable def F_laws_eqTurn : Fun := lock (denF m_laws_eqTurn)
def m_laws_eqTurnS : MFun where
  code := (.seq (.reg 0 none [⟨some 4, .asg (.k (.b false)), none, [4]⟩])
  (.seq (.seq (.reg 1 none [⟨some 6, .mv (.t 0), none, []⟩,
    ⟨some 7, .len false (.t 6), none, [6]⟩,
    ⟨some 8, .mv (.t 1), none, []⟩,
    ⟨some 9, .len false (.t 8), none, [8]⟩,
    ⟨some 10, .bin .neq .o (.t 7) (.t 9), none, [7, 9]⟩])
  (.cond (.t 10) (.seq (.reg 2 none [⟨some 4, .asg (.k (.b false)), none, [0, 1, 10]⟩])
  .ret) .sk))
  (.seq (.seq (.reg 3 none [⟨some 5, .asg (.k (.i .i64 0)), none, [10]⟩])
  (.blk 0 (.loop [0, 1, 5] (.seq (.seq (.reg 4 none [⟨some 11, .mv (.t 5), none, []⟩,
    ⟨some 12, .mv (.t 0), none, []⟩,
    ⟨some 13, .len false (.t 12), none, [12]⟩,
    ⟨some 14, .bin .lss .o (.t 11) (.t 13), none, [11, 13]⟩])
  (.cond (.t 14) .sk (.exit 0)))
  (.seq (.blk 1 (.seq (.reg 6 (some [([0, 14, 17], [14, 17]), ([5, 18], [18]), ([17, 18, 19], [17, 18, 19]), ([19, 20], [19, 20]), ([1, 21], [21]), ([5, 22], [22]), ([21, 22, 23], [21, 22, 23]), ([23, 24], [23, 24]), ([20, 24, 25], [20, 24, 25]), ([25, 26], [25, 26])]) [⟨some 17, .mv (.t 0), none, [14]⟩,
    ⟨some 18, .mv (.t 5), none, []⟩,
    ⟨some 19, .ia 3 (.t 17) (.t 18), none, [17, 18]⟩,
    ⟨some 20, .ld (some 3) (.t 19), none, [19]⟩,
    ⟨some 21, .mv (.t 1), none, []⟩,
    ⟨some 22, .mv (.t 5), none, []⟩,
    ⟨some 23, .ia 3 (.t 21) (.t 22), none, [21, 22]⟩,
    ⟨some 24, .ld (some 3) (.t 23), none, [23]⟩,
    ⟨some 25, .call g_laws_eqTurn F_laws_eqTurn [(.S, (.t 20)), (.S, (.t 24))], none, [20, 24]⟩,
    ⟨some 26, .un .not (.t 25), none, [25]⟩])
  (.cond (.t 26) (.seq (.reg 7 none [⟨some 4, .asg (.k (.b false)), none, [0, 1, 5, 26]⟩])
  .ret) .sk)))
  (.reg 5 none [⟨some 15, .mv (.t 5), none, [5, 26]⟩,
    ⟨some 16, .bin .add .o (.t 15) (.k (.i .i64 1)), none, [15]⟩,
    ⟨some 5, .asg (.t 16), none, [16]⟩]))))))
  (.seq (.reg 8 none [⟨some 4, .asg (.k (.b true)), none, [0, 1, 5, 14]⟩])
  .ret))))
  res := [.tmp 4]
  ptrs := []
  ar := 2
noncomputable def F_laws_eqTurnS : Fun := lock (denF m_laws_eqTurnS)
def m_laws_eqHouse : MFun where
  code := (.seq (.reg 0 none [⟨some 2, .box true (.t 0), none, [0]⟩,
    ⟨some 3, .box true (.t 1), none, [1]⟩,
    ⟨some 4, .asg (.k (.b false)), none, [4]⟩])
  (.seq (.seq (.reg 1 none [⟨some 5, .fa (.t 2) 0, none, []⟩,
    ⟨some 6, .ld (some 8) (.t 5), none, [5]⟩,
    ⟨some 7, .fa (.t 3) 0, none, []⟩,
    ⟨some 8, .ld (some 8) (.t 7), none, [7]⟩,
    ⟨some 9, .call g_laws_eqConf F_laws_eqConf [(.S, (.t 6)), (.S, (.t 8))], none, [6, 8]⟩,
    ⟨some 10, .un .not (.t 9), none, [9]⟩])
  (.cond (.t 10) (.seq (.reg 2 none [⟨some 4, .asg (.k (.b false)), none, [2, 3, 10]⟩])
  .ret) .sk))
  (.seq (.seq (.reg 3 none [⟨some 11, .fa (.t 2) 8, none, [10]⟩,
    ⟨some 12, .ld none (.t 11), none, [11]⟩,
    ⟨some 13, .fa (.t 3) 8, none, []⟩,
    ⟨some 14, .ld none (.t 13), none, [13]⟩,
    ⟨some 15, .bin .neq .o (.t 12) (.t 14), none, [12, 14]⟩])
  (.cond (.t 15) (.seq (.reg 4 none [⟨some 4, .asg (.k (.b false)), none, [2, 3, 15]⟩])
  .ret) .sk))
  (.seq (.seq (.reg 5 none [⟨some 16, .fa (.t 2) 9, none, [15]⟩,
    ⟨some 17, .ld none (.t 16), none, [16]⟩,
    ⟨some 18, .fa (.t 3) 9, none, []⟩,
    ⟨some 19, .ld none (.t 18), none, [18]⟩,
    ⟨some 20, .bin .neq .b (.t 17) (.t 19), none, [17, 19]⟩])
  (.cond (.t 20) (.seq (.reg 6 none [⟨some 4, .asg (.k (.b false)), none, [2, 3, 20]⟩])
  .ret) .sk))
  (.seq (.seq (.reg 7 none [⟨some 21, .fa (.t 2) 10, none, [20]⟩,
    ⟨some 22, .ld none (.t 21), none, [21]⟩,
    ⟨some 23, .fa (.t 3) 10, none, []⟩,
    ⟨some 24, .ld none (.t 23), none, [23]⟩,
    ⟨some 25, .call g_laws_eqSeatS F_laws_eqSeatS [(.S, (.t 22)), (.S, (.t 24))], none, [22, 24]⟩,
    ⟨some 26, .un .not (.t 25), none, [25]⟩])
  (.cond (.t 26) (.seq (.reg 8 none [⟨some 4, .asg (.k (.b false)), none, [2, 3, 26]⟩])
  .ret) .sk))
  (.seq (.seq (.reg 9 none [⟨some 27, .fa (.t 2) 11, none, [26]⟩,
    ⟨some 28, .ld none (.t 27), none, [27]⟩,
    ⟨some 29, .fa (.t 3) 11, none, []⟩,
    ⟨some 30, .ld none (.t 29), none, [29]⟩,
    ⟨some 31, .call g_laws_eqRowSS F_laws_eqRowSS [(.S, (.t 28)), (.S, (.t 30))], none, [28, 30]⟩,
    ⟨some 32, .un .not (.t 31), none, [31]⟩])
  (.cond (.t 32) (.seq (.reg 10 none [⟨some 4, .asg (.k (.b false)), none, [2, 3, 32]⟩])
  .ret) .sk))
  (.seq (.seq (.reg 11 none [⟨some 33, .fa (.t 2) 12, none, [32]⟩,
    ⟨some 34, .ld none (.t 33), none, [33]⟩,
    ⟨some 35, .fa (.t 3) 12, none, []⟩,
    ⟨some 36, .ld none (.t 35), none, [35]⟩,
    ⟨some 37, .call g_laws_eqTurnS F_laws_eqTurnS [(.S, (.t 34)), (.S, (.t 36))], none, [34, 36]⟩,
    ⟨some 38, .un .not (.t 37), none, [37]⟩])
  (.cond (.t 38) (.seq (.reg 12 none [⟨some 4, .asg (.k (.b false)), none, [2, 3, 38]⟩])
  .ret) .sk))
  (.seq (.seq (.reg 13 none [⟨some 39, .fa (.t 2) 13, none, [38]⟩,
    ⟨some 40, .ld none (.t 39), none, [39]⟩,
    ⟨some 41, .fa (.t 3) 13, none, []⟩,
    ⟨some 42, .ld none (.t 41), none, [41]⟩,
    ⟨some 43, .bin .neq .o (.t 40) (.t 42), none, [40, 42]⟩])
  (.cond (.t 43) (.seq (.reg 14 none [⟨some 4, .asg (.k (.b false)), none, [2, 3, 43]⟩])
  .ret) .sk))
  (.seq (.seq (.reg 15 none [⟨some 44, .fa (.t 2) 14, none, [43]⟩,
    ⟨some 45, .ld none (.t 44), none, [44]⟩,
    ⟨some 46, .fa (.t 3) 14, none, []⟩,
    ⟨some 47, .ld none (.t 46), none, [46]⟩,
    ⟨some 48, .call g_laws_eqEntryS F_laws_eqEntryS [(.S, (.t 45)), (.S, (.t 47))], none, [45, 47]⟩,
    ⟨some 49, .un .not (.t 48), none, [48]⟩])
  (.cond (.t 49) (.seq (.reg 16 none [⟨some 4, .asg (.k (.b false)), none, [2, 3, 49]⟩])
  .ret) .sk))
  (.seq (.seq (.reg 17 none [⟨some 50, .fa (.t 2) 15, none, [49]⟩,
    ⟨some 51, .ld none (.t 50), none, [50]⟩,
    ⟨some 52, .fa (.t 3) 15, none, []⟩,
    ⟨some 53, .ld none (.t 52), none, [52]⟩,
    ⟨some 54, .call g_laws_eqOutS F_laws_eqOutS [(.S, (.t 51)), (.S, (.t 53))], none, [2, 3, 51, 53]⟩,
    ⟨some 55, .un .not (.t 54), none, [54]⟩])
  (.cond (.t 55) (.seq (.reg 18 none [⟨some 4, .asg (.k (.b false)), none, [55]⟩])
  .ret) .sk))
  (.seq (.reg 19 none [⟨some 4, .asg (.k (.b true)), none, [55]⟩])
  .ret)))))))))))
  res := [.tmp 4]
  ptrs := []
  ar := 2
noncomputable def F_laws_eqHouse : Fun := lock (denF m_laws_eqHouse)
def m_laws_eqByteS : MFun where
  code := (.seq (.reg 0 none [⟨some 4, .asg (.k (.b false)), none, [4]⟩])
  (.seq (.seq (.reg 1 none [⟨some 6, .mv (.t 0), none, []⟩,
    ⟨some 7, .len false (.t 6), none, [6]⟩,
    ⟨some 8, .mv (.t 1), none, []⟩,
    ⟨some 9, .len false (.t 8), none, [8]⟩,
    ⟨some 10, .bin .neq .o (.t 7) (.t 9), none, [7, 9]⟩])
  (.cond (.t 10) (.seq (.reg 2 none [⟨some 4, .asg (.k (.b false)), none, [0, 1, 10]⟩])
  .ret) .sk))
  (.seq (.seq (.reg 3 none [⟨some 5, .asg (.k (.i .i64 0)), none, [10]⟩])
  (.blk 0 (.loop [0, 1, 5] (.seq (.seq (.reg 4 none [⟨some 11, .mv (.t 5), none, []⟩,
    ⟨some 12, .mv (.t 0), none, []⟩,
    ⟨some 13, .len false (.t 12), none, [12]⟩,
    ⟨some 14, .bin .lss .o (.t 11) (.t 13), none, [11, 13]⟩])
  (.cond (.t 14) .sk (.exit 0)))
  (.seq (.blk 1 (.seq (.reg 6 (some [([0, 14, 17], [14, 17]), ([5, 18], [18]), ([17, 18, 19], [17, 18, 19]), ([19, 20], [19, 20]), ([1, 21], [21]), ([5, 22], [22]), ([21, 22, 23], [21, 22, 23]), ([23, 24], [23, 24]), ([20, 24, 25], [20, 24, 25])]) [⟨some 17, .mv (.t 0), none, [14]⟩,
    ⟨some 18, .mv (.t 5), none, []⟩,
    ⟨some 19, .ia 1 (.t 17) (.t 18), none, [17, 18]⟩,
    ⟨some 20, .ld none (.t 19), none, [19]⟩,
    ⟨some 21, .mv (.t 1), none, []⟩,
    ⟨some 22, .mv (.t 5), none, []⟩,
    ⟨some 23, .ia 1 (.t 21) (.t 22), none, [21, 22]⟩,
    ⟨some 24, .ld none (.t 23), none, [23]⟩,
    ⟨some 25, .bin .neq .o (.t 20) (.t 24), none, [20, 24]⟩])
  (.cond (.t 25) (.seq (.reg 7 none [⟨some 4, .asg (.k (.b false)), none, [0, 1, 5, 25]⟩])
  .ret) .sk)))
  (.reg 5 none [⟨some 15, .mv (.t 5), none, [5, 25]⟩,
    ⟨some 16, .bin .add .o (.t 15) (.k (.i .i64 1)), none, [15]⟩,
    ⟨some 5, .asg (.t 16), none, [16]⟩]))))))
  (.seq (.reg 8 none [⟨some 4, .asg (.k (.b true)), none, [0, 1, 5, 14]⟩])
  .ret))))
  res := [.tmp 4]
  ptrs := []
  ar := 2
noncomputable def F_laws_eqByteS : Fun := lock (denF m_laws_eqByteS)
def m_laws_eqPack : MFun where
  code := (.seq (.reg 0 none [⟨some 2, .box true (.t 0), none, [0]⟩,
    ⟨some 3, .box true (.t 1), none, [1]⟩,
    ⟨some 4, .asg (.k (.b false)), none, [4]⟩])
  (.seq (.seq (.reg 1 none [⟨some 5, .fa (.t 2) 0, none, []⟩,
    ⟨some 6, .ld none (.t 5), none, [5]⟩,
    ⟨some 7, .fa (.t 3) 0, none, []⟩,
    ⟨some 8, .ld none (.t 7), none, [7]⟩,
    ⟨some 9, .bin .neq .o (.t 6) (.t 8), none, [6, 8]⟩])
  (.cond (.t 9) (.seq (.reg 2 none [⟨some 4, .asg (.k (.b false)), none, [2, 3, 9]⟩])
  .ret) .sk))
  (.seq (.seq (.reg 3 none [⟨some 10, .fa (.t 2) 1, none, [9]⟩,
    ⟨some 11, .ld none (.t 10), none, [10]⟩,
    ⟨some 12, .fa (.t 3) 1, none, []⟩,
    ⟨some 13, .ld none (.t 12), none, [12]⟩,
    ⟨some 14, .call g_laws_eqByteS F_laws_eqByteS [(.S, (.t 11)), (.S, (.t 13))], none, [11, 13]⟩,
    ⟨some 15, .un .not (.t 14), none, [14]⟩])
  (.cond (.t 15) (.seq (.reg 4 none [⟨some 4, .asg (.k (.b false)), none, [2, 3, 15]⟩])
  .ret) .sk))
  (.seq (.seq (.reg 5 none [⟨some 16, .fa (.t 2) 2, none, [15]⟩,
    ⟨some 17, .ld none (.t 16), none, [2, 16]⟩,
    ⟨some 18, .fa (.t 3) 2, none, []⟩,
    ⟨some 19, .ld none (.t 18), none, [3, 18]⟩,
    ⟨some 20, .bin .neq .b (.t 17) (.t 19), none, [17, 19]⟩])
  (.cond (.t 20) (.seq (.reg 6 none [⟨some 4, .asg (.k (.b false)), none, [20]⟩])
  .ret) .sk))
  (.seq (.reg 7 none [⟨some 4, .asg (.k (.b true)), none, [20]⟩])
  .ret)))))
  res := [.tmp 4]
  ptrs := []
  ar := 2
noncomputable def F_laws_eqPack : Fun := lock (denF m_laws_eqPack)
def m_laws_eqPackS : MFun where
  code := (.seq (.reg 0 none [⟨some 4, .asg (.k (.b false)), none, [4]⟩])
  (.seq (.seq (.reg 1 none [⟨some 6, .mv (.t 0), none, []⟩,
    ⟨some 7, .len false (.t 6), none, [6]⟩,
    ⟨some 8, .mv (.t 1), none, []⟩,
    ⟨some 9, .len false (.t 8), none, [8]⟩,
    ⟨some 10, .bin .neq .o (.t 7) (.t 9), none, [7, 9]⟩])
  (.cond (.t 10) (.seq (.reg 2 none [⟨some 4, .asg (.k (.b false)), none, [0, 1, 10]⟩])
  .ret) .sk))
  (.seq (.seq (.reg 3 none [⟨some 5, .asg (.k (.i .i64 0)), none, [10]⟩])
  (.blk 0 (.loop [0, 1, 5] (.seq (.seq (.reg 4 none [⟨some 11, .mv (.t 5), none, []⟩,
    ⟨some 12, .mv (.t 0), none, []⟩,
    ⟨some 13, .len false (.t 12), none, [12]⟩,
    ⟨some 14, .bin .lss .o (.t 11) (.t 13), none, [11, 13]⟩])
  (.cond (.t 14) .sk (.exit 0)))
  (.seq (.blk 1 (.seq (.reg 6 (some [([0, 14, 17], [14, 17]), ([5, 18], [18]), ([17, 18, 19], [17, 18, 19]), ([19, 20], [19, 20]), ([1, 21], [21]), ([5, 22], [22]), ([21, 22, 23], [21, 22, 23]), ([23, 24], [23, 24]), ([20, 24, 25], [20, 24, 25]), ([25, 26], [25, 26])]) [⟨some 17, .mv (.t 0), none, [14]⟩,
    ⟨some 18, .mv (.t 5), none, []⟩,
    ⟨some 19, .ia 3 (.t 17) (.t 18), none, [17, 18]⟩,
    ⟨some 20, .ld (some 3) (.t 19), none, [19]⟩,
    ⟨some 21, .mv (.t 1), none, []⟩,
    ⟨some 22, .mv (.t 5), none, []⟩,
    ⟨some 23, .ia 3 (.t 21) (.t 22), none, [21, 22]⟩,
    ⟨some 24, .ld (some 3) (.t 23), none, [23]⟩,
    ⟨some 25, .call g_laws_eqPack F_laws_eqPack [(.S, (.t 20)), (.S, (.t 24))], none, [20, 24]⟩,
    ⟨some 26, .un .not (.t 25), none, [25]⟩])
  (.cond (.t 26) (.seq (.reg 7 none [⟨some 4, .asg (.k (.b false)), none, [0, 1, 5, 26]⟩])
  .ret) .sk)))
  (.reg 5 none [⟨some 15, .mv (.t 5), none, [5, 26]⟩,
    ⟨some 16, .bin .add .o (.t 15) (.k (.i .i64 1)), none, [15]⟩,
    ⟨some 5, .asg (.t 16), none, [16]⟩]))))))
  (.seq (.reg 8 none [⟨some 4, .asg (.k (.b true)), none, [0, 1, 5, 14]⟩])
  .ret))))
  res := [.tmp 4]
  ptrs := []
  ar := 2
noncomputable def F_laws_eqPackS : Fun := lock (denF m_laws_eqPackS)
def m_laws_eqWorld : MFun where
  code := (.seq (.reg 0 none [⟨some 2, .box true (.t 0), none, [0]⟩,
    ⟨some 3, .box true (.t 1), none, [1]⟩,
    ⟨some 4, .asg (.k (.b false)), none, [4]⟩])
  (.seq (.seq (.reg 1 none [⟨some 5, .fa (.t 2) 0, none, []⟩,
    ⟨some 6, .ld none (.t 5), none, [5]⟩,
    ⟨some 7, .fa (.t 3) 0, none, []⟩,
    ⟨some 8, .ld none (.t 7), none, [7]⟩,
    ⟨some 9, .call g_laws_eqAgentS F_laws_eqAgentS [(.S, (.t 6)), (.S, (.t 8))], none, [6, 8]⟩,
    ⟨some 10, .un .not (.t 9), none, [9]⟩])
  (.cond (.t 10) (.seq (.reg 2 none [⟨some 4, .asg (.k (.b false)), none, [2, 3, 10]⟩])
  .ret) .sk))
  (.seq (.seq (.reg 3 none [⟨some 11, .fa (.t 2) 1, none, [10]⟩,
    ⟨some 12, .ld (some 16) (.t 11), none, [11]⟩,
    ⟨some 13, .fa (.t 3) 1, none, []⟩,
    ⟨some 14, .ld (some 16) (.t 13), none, [13]⟩,
    ⟨some 15, .call g_laws_eqHouse F_laws_eqHouse [(.S, (.t 12)), (.S, (.t 14))], none, [12, 14]⟩,
    ⟨some 16, .un .not (.t 15), none, [15]⟩])
  (.cond (.t 16) (.seq (.reg 4 none [⟨some 4, .asg (.k (.b false)), none, [2, 3, 16]⟩])
  .ret) .sk))
  (.seq (.seq (.reg 5 none [⟨some 17, .fa (.t 2) 17, none, [16]⟩,
    ⟨some 18, .ld none (.t 17), none, [17]⟩,
    ⟨some 19, .fa (.t 3) 17, none, []⟩,
    ⟨some 20, .ld none (.t 19), none, [19]⟩,
    ⟨some 21, .call g_laws_eqPackS F_laws_eqPackS [(.S, (.t 18)), (.S, (.t 20))], none, [2, 3, 18, 20]⟩,
    ⟨some 22, .un .not (.t 21), none, [21]⟩])
  (.cond (.t 22) (.seq (.reg 6 none [⟨some 4, .asg (.k (.b false)), none, [22]⟩])
  .ret) .sk))
  (.seq (.reg 7 none [⟨some 4, .asg (.k (.b true)), none, [22]⟩])
  .ret)))))
  res := [.tmp 4]
  ptrs := []
  ar := 2
noncomputable def F_laws_eqWorld : Fun := lock (denF m_laws_eqWorld)
def m_laws_szIntS : MFun where
  code := (.seq (.reg 0 none [⟨some 4, .asg (.k (.i .i64 0)), none, [4]⟩])
  (.seq (.reg 1 none [⟨some 5, .mv (.t 1), none, [1]⟩,
    ⟨some 6, .mv (.t 0), none, [0]⟩,
    ⟨some 7, .len false (.t 6), none, [6]⟩,
    ⟨some 8, .bin .sub .o (.t 5) (.t 7), none, [5, 7]⟩,
    ⟨some 1, .asg (.t 8), none, [8]⟩])
  (.seq (.seq (.reg 2 none [⟨some 9, .mv (.t 1), none, []⟩,
    ⟨some 10, .bin .lss .o (.t 9) (.k (.i .i64 0)), none, [9]⟩])
  (.cond (.t 10) (.seq (.reg 3 none [⟨some 4, .asg (.k (.i .i64 (-1))), none, [1, 10]⟩])
  .ret) .sk))
  (.seq (.reg 4 none [⟨some 11, .mv (.t 1), none, [1, 10]⟩,
    ⟨some 4, .asg (.t 11), none, [11]⟩])
  .ret))))
  res := [.tmp 4]
  ptrs := []
  ar := 2
noncomputable def F_laws_szIntS : Fun := lock (denF m_laws_szIntS)
def m_laws_szIntSS : MFun where
  code := (.seq (.reg 0 none [⟨some 4, .asg (.k (.i .i64 0)), none, [4]⟩])
  (.seq (.reg 1 none [⟨some 6, .mv (.t 1), none, [1]⟩,
    ⟨some 7, .mv (.t 0), none, []⟩,
    ⟨some 8, .len false (.t 7), none, [7]⟩,
    ⟨some 9, .bin .sub .o (.t 6) (.t 8), none, [6, 8]⟩,
    ⟨some 1, .asg (.t 9), none, [9]⟩])
  (.seq (.seq (.reg 2 none [⟨some 10, .mv (.t 1), none, []⟩,
    ⟨some 11, .bin .lss .o (.t 10) (.k (.i .i64 0)), none, [10]⟩])
  (.cond (.t 11) (.seq (.reg 3 none [⟨some 4, .asg (.k (.i .i64 (-1))), none, [0, 1, 11]⟩])
  .ret) .sk))
  (.seq (.seq (.reg 4 none [⟨some 5, .asg (.k (.i .i64 0)), none, [11]⟩])
  (.blk 0 (.loop [0, 1, 5] (.seq (.seq (.reg 5 none [⟨some 12, .mv (.t 5), none, []⟩,
    ⟨some 13, .mv (.t 0), none, []⟩,
    ⟨some 14, .len false (.t 13), none, [13]⟩,
    ⟨some 15, .bin .lss .o (.t 12) (.t 14), none, [12, 14]⟩])
  (.cond (.t 15) .sk (.exit 0)))
  (.seq (.blk 1 (.seq (.reg 7 none [⟨some 18, .mv (.t 0), none, [15]⟩,
    ⟨some 19, .mv (.t 5), none, []⟩,
    ⟨some 20, .ia 1 (.t 18) (.t 19), none, [18, 19]⟩,
    ⟨some 21, .ld none (.t 20), none, [20]⟩,
    ⟨some 22, .mv (.t 1), none, [1]⟩,
    ⟨some 23, .call g_laws_szIntS F_laws_szIntS [(.S, (.t 21)), (.S, (.t 22))], none, [21, 22]⟩,
    ⟨some 1, .asg (.t 23), none, [23]⟩])
  (.seq (.reg 8 none [⟨some 24, .mv (.t 1), none, []⟩,
    ⟨some 25, .bin .lss .o (.t 24) (.k (.i .i64 0)), none, [24]⟩])
  (.cond (.t 25) (.seq (.reg 9 none [⟨some 4, .asg (.k (.i .i64 (-1))), none, [0, 1, 5, 25]⟩])
  .ret) .sk))))
  (.reg 6 none [⟨some 16, .mv (.t 5), none, [5, 25]⟩,
    ⟨some 17, .bin .add .o (.t 16) (.k (.i .i64 1)), none, [16]⟩,
    ⟨some 5, .asg (.t 17), none, [17]⟩]))))))
  (.seq (.reg 10 none [⟨some 26, .mv (.t 1), none, [0, 1, 5, 15]⟩,
    ⟨some 4, .asg (.t 26), none, [26]⟩])
  .ret)))))
  res := [.tmp 4]
  ptrs := []
  ar := 2
noncomputable def F_laws_szIntSS : Fun := lock (denF m_laws_szIntSS)
def m_laws_szSketch : MFun where
  code := (.seq (.reg 0 none [⟨some 2, .box true (.t 0), none, [0]⟩,
    ⟨some 4, .asg (.k (.i .i64 0)), none, [4]⟩])
  (.seq (.reg 1 none [⟨some 5, .fa (.t 2) 4, none, []⟩,
    ⟨some 6, .ld none (.t 5), none, [5]⟩,
    ⟨some 7, .mv (.t 1), none, [1]⟩,
    ⟨some 8, .call g_laws_szIntS F_laws_szIntS [(.S, (.t 6)), (.S, (.t 7))], none, [6, 7]⟩,
    ⟨some 1, .asg (.t 8), none, [8]⟩])
  (.seq (.seq (.reg 2 none [⟨some 9, .mv (.t 1), none, []⟩,
    ⟨some 10, .bin .lss .o (.t 9) (.k (.i .i64 0)), none, [9]⟩])
  (.cond (.t 10) (.seq (.reg 3 none [⟨some 4, .asg (.k (.i .i64 (-1))), none, [1, 2, 10]⟩])
  .ret) .sk))
  (.seq (.reg 4 none [⟨some 11, .fa (.t 2) 5, none, [10]⟩,
    ⟨some 12, .ld none (.t 11), none, [11]⟩,
    ⟨some 13, .mv (.t 1), none, [1]⟩,
    ⟨some 14, .call g_laws_szIntS F_laws_szIntS [(.S, (.t 12)), (.S, (.t 13))], none, [12, 13]⟩,
    ⟨some 1, .asg (.t 14), none, [14]⟩])
  (.seq (.seq (.reg 5 none [⟨some 15, .mv (.t 1), none, []⟩,
    ⟨some 16, .bin .lss .o (.t 15) (.k (.i .i64 0)), none, [15]⟩])
  (.cond (.t 16) (.seq (.reg 6 none [⟨some 4, .asg (.k (.i .i64 (-1))), none, [1, 2, 16]⟩])
  .ret) .sk))
  (.seq (.reg 7 none [⟨some 17, .fa (.t 2) 6, none, [16]⟩,
    ⟨some 18, .ld none (.t 17), none, [17]⟩,
    ⟨some 19, .mv (.t 1), none, [1]⟩,
    ⟨some 20, .call g_laws_szIntSS F_laws_szIntSS [(.S, (.t 18)), (.S, (.t 19))], none, [2, 18, 19]⟩,
    ⟨some 1, .asg (.t 20), none, [20]⟩])
  (.seq (.seq (.reg 8 none [⟨some 21, .mv (.t 1), none, []⟩,
    ⟨some 22, .bin .lss .o (.t 21) (.k (.i .i64 0)), none, [21]⟩])
  (.cond (.t 22) (.seq (.reg 9 none [⟨some 4, .asg (.k (.i .i64 (-1))), none, [1, 22]⟩])
  .ret) .sk))
  (.seq (.reg 10 none [⟨some 23, .mv (.t 1), none, [1, 22]⟩,
    ⟨some 4, .asg (.t 23), none, [23]⟩])
  .ret))))))))
  res := [.tmp 4]
  ptrs := []
  ar := 2
noncomputable def F_laws_szSketch : Fun := lock (denF m_laws_szSketch)
def m_laws_szItem : MFun where
  code := (.seq (.reg 0 none [⟨some 2, .box true (.t 0), none, [0]⟩,
    ⟨some 4, .asg (.k (.i .i64 0)), none, [4]⟩])
  (.seq (.reg 1 none [⟨some 5, .fa (.t 2) 4, none, []⟩,
    ⟨some 6, .ld (some 7) (.t 5), none, [5]⟩,
    ⟨some 7, .mv (.t 1), none, [1]⟩,
    ⟨some 8, .call g_laws_szSketch F_laws_szSketch [(.S, (.t 6)), (.S, (.t 7))], none, [2, 6, 7]⟩,
    ⟨some 1, .asg (.t 8), none, [8]⟩])
  (.seq (.seq (.reg 2 none [⟨some 9, .mv (.t 1), none, []⟩,
    ⟨some 10, .bin .lss .o (.t 9) (.k (.i .i64 0)), none, [9]⟩])
  (.cond (.t 10) (.seq (.reg 3 none [⟨some 4, .asg (.k (.i .i64 (-1))), none, [1, 10]⟩])
  .ret) .sk))
  (.seq (.reg 4 none [⟨some 11, .mv (.t 1), none, [1, 10]⟩,
    ⟨some 4, .asg (.t 11), none, [11]⟩])
  .ret))))
  res := [.tmp 4]
  ptrs := []
  ar := 2
noncomputable def F_laws_szItem : Fun := lock (denF m_laws_szItem)
def m_laws_szItemS : MFun where
  code := (.seq (.reg 0 none [⟨some 4, .asg (.k (.i .i64 0)), none, [4]⟩])
  (.seq (.reg 1 none [⟨some 6, .mv (.t 1), none, [1]⟩,
    ⟨some 7, .mv (.t 0), none, []⟩,
    ⟨some 8, .len false (.t 7), none, [7]⟩,
    ⟨some 9, .bin .sub .o (.t 6) (.t 8), none, [6, 8]⟩,
    ⟨some 1, .asg (.t 9), none, [9]⟩])
  (.seq (.seq (.reg 2 none [⟨some 10, .mv (.t 1), none, []⟩,
    ⟨some 11, .bin .lss .o (.t 10) (.k (.i .i64 0)), none, [10]⟩])
  (.cond (.t 11) (.seq (.reg 3 none [⟨some 4, .asg (.k (.i .i64 (-1))), none, [0, 1, 11]⟩])
  .ret) .sk))
  (.seq (.seq (.reg 4 none [⟨some 5, .asg (.k (.i .i64 0)), none, [11]⟩])
  (.blk 0 (.loop [0, 1, 5] (.seq (.seq (.reg 5 none [⟨some 12, .mv (.t 5), none, []⟩,
    ⟨some 13, .mv (.t 0), none, []⟩,
    ⟨some 14, .len false (.t 13), none, [13]⟩,
    ⟨some 15, .bin .lss .o (.t 12) (.t 14), none, [12, 14]⟩])
  (.cond (.t 15) .sk (.exit 0)))
  (.seq (.blk 1 (.seq (.reg 7 none [⟨some 18, .mv (.t 0), none, [15]⟩,
    ⟨some 19, .mv (.t 5), none, []⟩,
    ⟨some 20, .ia 11 (.t 18) (.t 19), none, [18, 19]⟩,
    ⟨some 21, .ld (some 11) (.t 20), none, [20]⟩,
    ⟨some 22, .mv (.t 1), none, [1]⟩,
    ⟨some 23, .call g_laws_szItem F_laws_szItem [(.S, (.t 21)), (.S, (.t 22))], none, [21, 22]⟩,
    ⟨some 1, .asg (.t 23), none, [23]⟩])
  (.seq (.reg 8 none [⟨some 24, .mv (.t 1), none, []⟩,
    ⟨some 25, .bin .lss .o (.t 24) (.k (.i .i64 0)), none, [24]⟩])
  (.cond (.t 25) (.seq (.reg 9 none [⟨some 4, .asg (.k (.i .i64 (-1))), none, [0, 1, 5, 25]⟩])
  .ret) .sk))))
  (.reg 6 none [⟨some 16, .mv (.t 5), none, [5, 25]⟩,
    ⟨some 17, .bin .add .o (.t 16) (.k (.i .i64 1)), none, [16]⟩,
    ⟨some 5, .asg (.t 17), none, [17]⟩]))))))
  (.seq (.reg 10 none [⟨some 26, .mv (.t 1), none, [0, 1, 5, 15]⟩,
    ⟨some 4, .asg (.t 26), none, [26]⟩])
  .ret)))))
  res := [.tmp 4]
  ptrs := []
  ar := 2
noncomputable def F_laws_szItemS : Fun := lock (denF m_laws_szItemS)
def m_laws_szSpanS : MFun where
  code := (.seq (.reg 0 none [⟨some 4, .asg (.k (.i .i64 0)), none, [4]⟩])
  (.seq (.reg 1 none [⟨some 5, .mv (.t 1), none, [1]⟩,
    ⟨some 6, .mv (.t 0), none, [0]⟩,
    ⟨some 7, .len false (.t 6), none, [6]⟩,
    ⟨some 8, .bin .sub .o (.t 5) (.t 7), none, [5, 7]⟩,
    ⟨some 1, .asg (.t 8), none, [8]⟩])
  (.seq (.seq (.reg 2 none [⟨some 9, .mv (.t 1), none, []⟩,
    ⟨some 10, .bin .lss .o (.t 9) (.k (.i .i64 0)), none, [9]⟩])
  (.cond (.t 10) (.seq (.reg 3 none [⟨some 4, .asg (.k (.i .i64 (-1))), none, [1, 10]⟩])
  .ret) .sk))
  (.seq (.reg 4 none [⟨some 11, .mv (.t 1), none, [1, 10]⟩,
    ⟨some 4, .asg (.t 11), none, [11]⟩])
  .ret))))
  res := [.tmp 4]
  ptrs := []
  ar := 2
noncomputable def F_laws_szSpanS : Fun := lock (denF m_laws_szSpanS)
def m_laws_szAgent : MFun where
  code := (.seq (.reg 0 none [⟨some 2, .box true (.t 0), none, [0]⟩,
    ⟨some 4, .asg (.k (.i .i64 0)), none, [4]⟩])
  (.seq (.reg 1 none [⟨some 5, .fa (.t 2) 4, none, []⟩,
    ⟨some 6, .ld none (.t 5), none, [5]⟩,
    ⟨some 7, .mv (.t 1), none, [1]⟩,
    ⟨some 8, .call g_laws_szItemS F_laws_szItemS [(.S, (.t 6)), (.S, (.t 7))], none, [6, 7]⟩,
    ⟨some 1, .asg (.t 8), none, [8]⟩])
  (.seq (.seq (.reg 2 none [⟨some 9, .mv (.t 1), none, []⟩,
    ⟨some 10, .bin .lss .o (.t 9) (.k (.i .i64 0)), none, [9]⟩])
  (.cond (.t 10) (.seq (.reg 3 none [⟨some 4, .asg (.k (.i .i64 (-1))), none, [1, 2, 10]⟩])
  .ret) .sk))
  (.seq (.reg 4 none [⟨some 11, .fa (.t 2) 5, none, [10]⟩,
    ⟨some 12, .ld none (.t 11), none, [11]⟩,
    ⟨some 13, .mv (.t 1), none, [1]⟩,
    ⟨some 14, .call g_laws_szSpanS F_laws_szSpanS [(.S, (.t 12)), (.S, (.t 13))], none, [2, 12, 13]⟩,
    ⟨some 1, .asg (.t 14), none, [14]⟩])
  (.seq (.seq (.reg 5 none [⟨some 15, .mv (.t 1), none, []⟩,
    ⟨some 16, .bin .lss .o (.t 15) (.k (.i .i64 0)), none, [15]⟩])
  (.cond (.t 16) (.seq (.reg 6 none [⟨some 4, .asg (.k (.i .i64 (-1))), none, [1, 16]⟩])
  .ret) .sk))
  (.seq (.reg 7 none [⟨some 17, .mv (.t 1), none, [1, 16]⟩,
    ⟨some 4, .asg (.t 17), none, [17]⟩])
  .ret))))))
  res := [.tmp 4]
  ptrs := []
  ar := 2
noncomputable def F_laws_szAgent : Fun := lock (denF m_laws_szAgent)
def m_laws_szAgentS : MFun where
  code := (.seq (.reg 0 none [⟨some 4, .asg (.k (.i .i64 0)), none, [4]⟩])
  (.seq (.reg 1 none [⟨some 6, .mv (.t 1), none, [1]⟩,
    ⟨some 7, .mv (.t 0), none, []⟩,
    ⟨some 8, .len false (.t 7), none, [7]⟩,
    ⟨some 9, .bin .sub .o (.t 6) (.t 8), none, [6, 8]⟩,
    ⟨some 1, .asg (.t 9), none, [9]⟩])
  (.seq (.seq (.reg 2 none [⟨some 10, .mv (.t 1), none, []⟩,
    ⟨some 11, .bin .lss .o (.t 10) (.k (.i .i64 0)), none, [10]⟩])
  (.cond (.t 11) (.seq (.reg 3 none [⟨some 4, .asg (.k (.i .i64 (-1))), none, [0, 1, 11]⟩])
  .ret) .sk))
  (.seq (.seq (.reg 4 none [⟨some 5, .asg (.k (.i .i64 0)), none, [11]⟩])
  (.blk 0 (.loop [0, 1, 5] (.seq (.seq (.reg 5 none [⟨some 12, .mv (.t 5), none, []⟩,
    ⟨some 13, .mv (.t 0), none, []⟩,
    ⟨some 14, .len false (.t 13), none, [13]⟩,
    ⟨some 15, .bin .lss .o (.t 12) (.t 14), none, [12, 14]⟩])
  (.cond (.t 15) .sk (.exit 0)))
  (.seq (.blk 1 (.seq (.reg 7 none [⟨some 18, .mv (.t 0), none, [15]⟩,
    ⟨some 19, .mv (.t 5), none, []⟩,
    ⟨some 20, .ia 7 (.t 18) (.t 19), none, [18, 19]⟩,
    ⟨some 21, .ld (some 7) (.t 20), none, [20]⟩,
    ⟨some 22, .mv (.t 1), none, [1]⟩,
    ⟨some 23, .call g_laws_szAgent F_laws_szAgent [(.S, (.t 21)), (.S, (.t 22))], none, [21, 22]⟩,
    ⟨some 1, .asg (.t 23), none, [23]⟩])
  (.seq (.reg 8 none [⟨some 24, .mv (.t 1), none, []⟩,
    ⟨some 25, .bin .lss .o (.t 24) (.k (.i .i64 0)), none, [24]⟩])
  (.cond (.t 25) (.seq (.reg 9 none [⟨some 4, .asg (.k (.i .i64 (-1))), none, [0, 1, 5, 25]⟩])
  .ret) .sk))))
  (.reg 6 none [⟨some 16, .mv (.t 5), none, [5, 25]⟩,
    ⟨some 17, .bin .add .o (.t 16) (.k (.i .i64 1)), none, [16]⟩,
    ⟨some 5, .asg (.t 17), none, [17]⟩]))))))
  (.seq (.reg 10 none [⟨some 26, .mv (.t 1), none, [0, 1, 5, 15]⟩,
    ⟨some 4, .asg (.t 26), none, [26]⟩])
  .ret)))))
  res := [.tmp 4]
  ptrs := []
  ar := 2
noncomputable def F_laws_szAgentS : Fun := lock (denF m_laws_szAgentS)
def m_laws_szConf : MFun where
  code := (.seq (.reg 0 none [⟨some 2, .box true (.t 0), none, [0]⟩,
    ⟨some 4, .asg (.k (.i .i64 0)), none, [4]⟩])
  (.seq (.reg 1 none [⟨some 5, .fa (.t 2) 3, none, []⟩,
    ⟨some 6, .ld none (.t 5), none, [5]⟩,
    ⟨some 7, .mv (.t 1), none, [1]⟩,
    ⟨some 8, .call g_laws_szIntS F_laws_szIntS [(.S, (.t 6)), (.S, (.t 7))], none, [2, 6, 7]⟩,
    ⟨some 1, .asg (.t 8), none, [8]⟩])
  (.seq (.seq (.reg 2 none [⟨some 9, .mv (.t 1), none, []⟩,
    ⟨some 10, .bin .lss .o (.t 9) (.k (.i .i64 0)), none, [9]⟩])
  (.cond (.t 10) (.seq (.reg 3 none [⟨some 4, .asg (.k (.i .i64 (-1))), none, [1, 10]⟩])
  .ret) .sk))
  (.seq (.reg 4 none [⟨some 11, .mv (.t 1), none, [1, 10]⟩,
    ⟨some 4, .asg (.t 11), none, [11]⟩])
  .ret))))
  res := [.tmp 4]
  ptrs := []
  ar := 2
noncomputable def F_laws_szConf : Fun := lock (denF m_laws_szConf)
def m_laws_szEntry : MFun where
  code := (.seq (.reg 0 none [⟨some 2, .box true (.t 0), none, [0]⟩,
    ⟨some 4, .asg (.k (.i .i64 0)), none, [4]⟩])
  (.seq (.reg 1 none [⟨some 5, .fa (.t 2) 2, none, []⟩,
    ⟨some 6, .ld none (.t 5), none, [5]⟩,
    ⟨some 7, .mv (.t 1), none, [1]⟩,
    ⟨some 8, .call g_laws_szSpanS F_laws_szSpanS [(.S, (.t 6)), (.S, (.t 7))], none, [6, 7]⟩,
    ⟨some 1, .asg (.t 8), none, [8]⟩])
  (.seq (.seq (.reg 2 none [⟨some 9, .mv (.t 1), none, []⟩,
    ⟨some 10, .bin .lss .o (.t 9) (.k (.i .i64 0)), none, [9]⟩])
  (.cond (.t 10) (.seq (.reg 3 none [⟨some 4, .asg (.k (.i .i64 (-1))), none, [1, 2, 10]⟩])
  .ret) .sk))
  (.seq (.reg 4 none [⟨some 11, .fa (.t 2) 3, none, [10]⟩,
    ⟨some 12, .ld (some 7) (.t 11), none, [11]⟩,
    ⟨some 13, .mv (.t 1), none, [1]⟩,
    ⟨some 14, .call g_laws_szSketch F_laws_szSketch [(.S, (.t 12)), (.S, (.t 13))], none, [2, 12, 13]⟩,
    ⟨some 1, .asg (.t 14), none, [14]⟩])
  (.seq (.seq (.reg 5 none [⟨some 15, .mv (.t 1), none, []⟩,
    ⟨some 16, .bin .lss .o (.t 15) (.k (.i .i64 0)), none, [15]⟩])
  (.cond (.t 16) (.seq (.reg 6 none [⟨some 4, .asg (.k (.i .i64 (-1))), none, [1, 16]⟩])
  .ret) .sk))
  (.seq (.reg 7 none [⟨some 17, .mv (.t 1), none, [1, 16]⟩,
    ⟨some 4, .asg (.t 17), none, [17]⟩])
  .ret))))))
  res := [.tmp 4]
  ptrs := []
  ar := 2
noncomputable def F_laws_szEntry : Fun := lock (denF m_laws_szEntry)
def m_laws_szEntryS : MFun where
  code := (.seq (.reg 0 none [⟨some 4, .asg (.k (.i .i64 0)), none, [4]⟩])
  (.seq (.reg 1 none [⟨some 6, .mv (.t 1), none, [1]⟩,
    ⟨some 7, .mv (.t 0), none, []⟩,
    ⟨some 8, .len false (.t 7), none, [7]⟩,
    ⟨some 9, .bin .sub .o (.t 6) (.t 8), none, [6, 8]⟩,
    ⟨some 1, .asg (.t 9), none, [9]⟩])
  (.seq (.seq (.reg 2 none [⟨some 10, .mv (.t 1), none, []⟩,
    ⟨some 11, .bin .lss .o (.t 10) (.k (.i .i64 0)), none, [10]⟩])
  (.cond (.t 11) (.seq (.reg 3 none [⟨some 4, .asg (.k (.i .i64 (-1))), none, [0, 1, 11]⟩])
  .ret) .sk))
  (.seq (.seq (.reg 4 none [⟨some 5, .asg (.k (.i .i64 0)), none, [11]⟩])
  (.blk 0 (.loop [0, 1, 5] (.seq (.seq (.reg 5 none [⟨some 12, .mv (.t 5), none, []⟩,
    ⟨some 13, .mv (.t 0), none, []⟩,
    ⟨some 14, .len false (.t 13), none, [13]⟩,
    ⟨some 15, .bin .lss .o (.t 12) (.t 14), none, [12, 14]⟩])
  (.cond (.t 15) .sk (.exit 0)))
  (.seq (.blk 1 (.seq (.reg 7 none [⟨some 18, .mv (.t 0), none, [15]⟩,
    ⟨some 19, .mv (.t 5), none, []⟩,
    ⟨some 20, .ia 10 (.t 18) (.t 19), none, [18, 19]⟩,
    ⟨some 21, .ld (some 10) (.t 20), none, [20]⟩,
    ⟨some 22, .mv (.t 1), none, [1]⟩,
    ⟨some 23, .call g_laws_szEntry F_laws_szEntry [(.S, (.t 21)), (.S, (.t 22))], none, [21, 22]⟩,
    ⟨some 1, .asg (.t 23), none, [23]⟩])
  (.seq (.reg 8 none [⟨some 24, .mv (.t 1), none, []⟩,
    ⟨some 25, .bin .lss .o (.t 24) (.k (.i .i64 0)), none, [24]⟩])
  (.cond (.t 25) (.seq (.reg 9 none [⟨some 4, .asg (.k (.i .i64 (-1))), none, [0, 1, 5, 25]⟩])
  .ret) .sk))))
  (.reg 6 none [⟨some 16, .mv (.t 5), none, [5, 25]⟩,
    ⟨some 17, .bin .add .o (.t 16) (.k (.i .i64 1)), none, [16]⟩,
    ⟨some 5, .asg (.t 17), none, [17]⟩]))))))
  (.seq (.reg 10 none [⟨some 26, .mv (.t 1), none, [0, 1, 5, 15]⟩,
    ⟨some 4, .asg (.t 26), none, [26]⟩])
  .ret)))))
  res := [.tmp 4]
  ptrs := []
  ar := 2
noncomputable def F_laws_szEntryS : Fun := lock (denF m_laws_szEntryS)
def m_laws_szOut : MFun where
  code := (.seq (.reg 0 none [⟨some 2, .box true (.t 0), none, [0]⟩,
    ⟨some 4, .asg (.k (.i .i64 0)), none, [4]⟩])
  (.seq (.reg 1 none [⟨some 5, .fa (.t 2) 1, none, []⟩,
    ⟨some 6, .ld (some 10) (.t 5), none, [5]⟩,
    ⟨some 7, .mv (.t 1), none, [1]⟩,
    ⟨some 8, .call g_laws_szEntry F_laws_szEntry [(.S, (.t 6)), (.S, (.t 7))], none, [2, 6, 7]⟩,
    ⟨some 1, .asg (.t 8), none, [8]⟩])
  (.seq (.seq (.reg 2 none [⟨some 9, .mv (.t 1), none, []⟩,
    ⟨some 10, .bin .lss .o (.t 9) (.k (.i .i64 0)), none, [9]⟩])
  (.cond (.t 10) (.seq (.reg 3 none [⟨some 4, .asg (.k (.i .i64 (-1))), none, [1, 10]⟩])
  .ret) .sk))
  (.seq (.reg 4 none [⟨some 11, .mv (.t 1), none, [1, 10]⟩,
    ⟨some 4, .asg (.t 11), none, [11]⟩])
  .ret))))
  res := [.tmp 4]
  ptrs := []
  ar := 2
noncomputable def F_laws_szOut : Fun := lock (denF m_laws_szOut)
def m_laws_szOutS : MFun where
  code := (.seq (.reg 0 none [⟨some 4, .asg (.k (.i .i64 0)), none, [4]⟩])
  (.seq (.reg 1 none [⟨some 6, .mv (.t 1), none, [1]⟩,
    ⟨some 7, .mv (.t 0), none, []⟩,
    ⟨some 8, .len false (.t 7), none, [7]⟩,
    ⟨some 9, .bin .sub .o (.t 6) (.t 8), none, [6, 8]⟩,
    ⟨some 1, .asg (.t 9), none, [9]⟩])
  (.seq (.seq (.reg 2 none [⟨some 10, .mv (.t 1), none, []⟩,
    ⟨some 11, .bin .lss .o (.t 10) (.k (.i .i64 0)), none, [10]⟩])
  (.cond (.t 11) (.seq (.reg 3 none [⟨some 4, .asg (.k (.i .i64 (-1))), none, [0, 1, 11]⟩])
  .ret) .sk))
  (.seq (.seq (.reg 4 none [⟨some 5, .asg (.k (.i .i64 0)), none, [11]⟩])
  (.blk 0 (.loop [0, 1, 5] (.seq (.seq (.reg 5 none [⟨some 12, .mv (.t 5), none, []⟩,
    ⟨some 13, .mv (.t 0), none, []⟩,
    ⟨some 14, .len false (.t 13), none, [13]⟩,
    ⟨some 15, .bin .lss .o (.t 12) (.t 14), none, [12, 14]⟩])
  (.cond (.t 15) .sk (.exit 0)))
  (.seq (.blk 1 (.seq (.reg 7 none [⟨some 18, .mv (.t 0), none, [15]⟩,
    ⟨some 19, .mv (.t 5), none, []⟩,
    ⟨some 20, .ia 11 (.t 18) (.t 19), none, [18, 19]⟩,
    ⟨some 21, .ld (some 11) (.t 20), none, [20]⟩,
    ⟨some 22, .mv (.t 1), none, [1]⟩,
    ⟨some 23, .call g_laws_szOut F_laws_szOut [(.S, (.t 21)), (.S, (.t 22))], none, [21, 22]⟩,
    ⟨some 1, .asg (.t 23), none, [23]⟩])
  (.seq (.reg 8 none [⟨some 24, .mv (.t 1), none, []⟩,
    ⟨some 25, .bin .lss .o (.t 24) (.k (.i .i64 0)), none, [24]⟩])
  (.cond (.t 25) (.seq (.reg 9 none [⟨some 4, .asg (.k (.i .i64 (-1))), none, [0, 1, 5, 25]⟩])
  .ret) .sk))))
  (.reg 6 none [⟨some 16, .mv (.t 5), none, [5, 25]⟩,
    ⟨some 17, .bin .add .o (.t 16) (.k (.i .i64 1)), none, [16]⟩,
    ⟨some 5, .asg (.t 17), none, [17]⟩]))))))
  (.seq (.reg 10 none [⟨some 26, .mv (.t 1), none, [0, 1, 5, 15]⟩,
    ⟨some 4, .asg (.t 26), none, [26]⟩])
  .ret)))))
  res := [.tmp 4]
  ptrs := []
  ar := 2
noncomputable def F_laws_szOutS : Fun := lock (denF m_laws_szOutS)
def m_laws_szRow : MFun where
  code := (.seq (.reg 0 none [⟨some 2, .box true (.t 0), none, [0]⟩,
    ⟨some 4, .asg (.k (.i .i64 0)), none, [4]⟩])
  (.seq (.reg 1 none [⟨some 5, .fa (.t 2) 0, none, []⟩,
    ⟨some 6, .ld none (.t 5), none, [5]⟩,
    ⟨some 7, .mv (.t 1), none, [1]⟩,
    ⟨some 8, .call g_laws_szEntryS F_laws_szEntryS [(.S, (.t 6)), (.S, (.t 7))], none, [2, 6, 7]⟩,
    ⟨some 1, .asg (.t 8), none, [8]⟩])
  (.seq (.seq (.reg 2 none [⟨some 9, .mv (.t 1), none, []⟩,
    ⟨some 10, .bin .lss .o (.t 9) (.k (.i .i64 0)), none, [9]⟩])
  (.cond (.t 10) (.seq (.reg 3 none [⟨some 4, .asg (.k (.i .i64 (-1))), none, [1, 10]⟩])
  .ret) .sk))
  (.seq (.reg 4 none [⟨some 11, .mv (.t 1), none, [1, 10]⟩,
    ⟨some 4, .asg (.t 11), none, [11]⟩])
  .ret))))
  res := [.tmp 4]
  ptrs := []
  ar := 2
noncomputable def F_laws_szRow : Fun := lock (denF m_laws_szRow)
def m_laws_szRowS : MFun where
  code := (.seq (.reg 0 none [⟨some 4, .asg (.k (.i .i64 0)), none, [4]⟩])
  (.seq (.reg 1 none [⟨some 6, .mv (.t 1), none, [1]⟩,
    ⟨some 7, .mv (.t 0), none, []⟩,
    ⟨some 8, .len false (.t 7), none, [7]⟩,
    ⟨some 9, .bin .sub .o (.t 6) (.t 8), none, [6, 8]⟩,
    ⟨some 1, .asg (.t 9), none, [9]⟩])
  (.seq (.seq (.reg 2 none [⟨some 10, .mv (.t 1), none, []⟩,
    ⟨some 11, .bin .lss .o (.t 10) (.k (.i .i64 0)), none, [10]⟩])
  (.cond (.t 11) (.seq (.reg 3 none [⟨some 4, .asg (.k (.i .i64 (-1))), none, [0, 1, 11]⟩])
  .ret) .sk))
  (.seq (.seq (.reg 4 none [⟨some 5, .asg (.k (.i .i64 0)), none, [11]⟩])
  (.blk 0 (.loop [0, 1, 5] (.seq (.seq (.reg 5 none [⟨some 12, .mv (.t 5), none, []⟩,
    ⟨some 13, .mv (.t 0), none, []⟩,
    ⟨some 14, .len false (.t 13), none, [13]⟩,
    ⟨some 15, .bin .lss .o (.t 12) (.t 14), none, [12, 14]⟩])
  (.cond (.t 15) .sk (.exit 0)))
  (.seq (.blk 1 (.seq (.reg 7 none [⟨some 18, .mv (.t 0), none, [15]⟩,
    ⟨some 19, .mv (.t 5), none, []⟩,
    ⟨some 20, .ia 1 (.t 18) (.t 19), none, [18, 19]⟩,
    ⟨some 21, .ld (some 1) (.t 20), none, [20]⟩,
    ⟨some 22, .mv (.t 1), none, [1]⟩,
    ⟨some 23, .call g_laws_szRow F_laws_szRow [(.S, (.t 21)), (.S, (.t 22))], none, [21, 22]⟩,
    ⟨some 1, .asg (.t 23), none, [23]⟩])
  (.seq (.reg 8 none [⟨some 24, .mv (.t 1), none, []⟩,
    ⟨some 25, .bin .lss .o (.t 24) (.k (.i .i64 0)), none, [24]⟩])
  (.cond (.t 25) (.seq (.reg 9 none [⟨some 4, .asg (.k (.i .i64 (-1))), none, [0, 1, 5, 25]⟩])
  .ret) .sk))))
  (.reg 6 none [⟨some 16, .mv (.t 5), none, [5, 25]⟩,
    ⟨some 17, .bin .add .o (.t 16) (.k (.i .i64 1)), none, [16]⟩,
    ⟨some 5, .asg (.t 17), none, [17]⟩]))))))
  (.seq (.reg 10 none [⟨some 26, .mv (.t 1), none, [0, 1, 5, 15]⟩,
    ⟨some 4, .asg (.t 26), none, [26]⟩])
  .ret)))))
  res := [.tmp 4]
  ptrs := []
  ar := 2
noncomputable def F_laws_szRowS : Fun := lock (denF m_laws_szRowS)
def m_laws_szRowSS : MFun where
  code := (.seq (.reg 0 none [⟨some 4, .asg (.k (.i .i64 0)), none, [4]⟩])
  (.seq (.reg 1 none [⟨some 6, .mv (.t 1), none, [1]⟩,
    ⟨some 7, .mv (.t 0), none, []⟩,
    ⟨some 8, .len false (.t 7), none, [7]⟩,
    ⟨some 9, .bin .sub .o (.t 6) (.t 8), none, [6, 8]⟩,
    ⟨some 1, .asg (.t 9), none, [9]⟩])
  (.seq (.seq (.reg 2 none [⟨some 10, .mv (.t 1), none, []⟩,
    ⟨some 11, .bin .lss .o (.t 10) (.k (.i .i64 0)), none, [10]⟩])
  (.cond (.t 11) (.seq (.reg 3 none [⟨some 4, .asg (.k (.i .i64 (-1))), none, [0, 1, 11]⟩])
  .ret) .sk))
  (.seq (.seq (.reg 4 none [⟨some 5, .asg (.k (.i .i64 0)), none, [11]⟩])
  (.blk 0 (.loop [0, 1, 5] (.seq (.seq (.reg 5 none [⟨some 12, .mv (.t 5), none, []⟩,
    ⟨some 13, .mv (.t 0), none, []⟩,
    ⟨some 14, .len false (.t 13), none, [13]⟩,
    ⟨some 15, .bin .lss .o (.t 12) (.t 14), none, [12, 14]⟩])
  (.cond (.t 15) .sk (.exit 0)))
  (.seq (.blk 1 (.seq (.reg 7 none [⟨some 18, .mv (.t 0), none, [15]⟩,
    ⟨some 19, .mv (.t 5), none, []⟩,
    ⟨some 20, .ia 1 (.t 18) (.t 19), none, [18, 19]⟩,
    ⟨some 21, .ld none (.t 20), none, [20]⟩,
    ⟨some 22, .mv (.t 1), none, [1]⟩,
    ⟨some 23, .call g_laws_szRowS F_laws_szRowS [(.S, (.t 21)), (.S, (.t 22))], none, [21, 22]⟩,
    ⟨some 1, .asg (.t 23), none, [23]⟩])
  (.seq (.reg 8 none [⟨some 24, .mv (.t 1), none, []⟩,
    ⟨some 25, .bin .lss .o (.t 24) (.k (.i .i64 0)), none, [24]⟩])
  (.cond (.t 25) (.seq (.reg 9 none [⟨some 4, .asg (.k (.i .i64 (-1))), none, [0, 1, 5, 25]⟩])
  .ret) .sk))))
  (.reg 6 none [⟨some 16, .mv (.t 5), none, [5, 25]⟩,
    ⟨some 17, .bin .add .o (.t 16) (.k (.i .i64 1)), none, [16]⟩,
    ⟨some 5, .asg (.t 17), none, [17]⟩]))))))
  (.seq (.reg 10 none [⟨some 26, .mv (.t 1), none, [0, 1, 5, 15]⟩,
    ⟨some 4, .asg (.t 26), none, [26]⟩])
  .ret)))))
  res := [.tmp 4]
  ptrs := []
  ar := 2
noncomputable def F_laws_szRowSS : Fun := lock (denF m_laws_szRowSS)
def m_laws_szSeat : MFun where
  code := (.seq (.reg 0 none [⟨some 2, .box true (.t 0), none, [0]⟩,
    ⟨some 4, .asg (.k (.i .i64 0)), none, [4]⟩])
  (.seq (.reg 1 none [⟨some 5, .fa (.t 2) 2, none, []⟩,
    ⟨some 6, .ld none (.t 5), none, [5]⟩,
    ⟨some 7, .mv (.t 1), none, [1]⟩,
    ⟨some 8, .call g_laws_szSpanS F_laws_szSpanS [(.S, (.t 6)), (.S, (.t 7))], none, [2, 6, 7]⟩,
    ⟨some 1, .asg (.t 8), none, [8]⟩])
  (.seq (.seq (.reg 2 none [⟨some 9, .mv (.t 1), none, []⟩,
    ⟨some 10, .bin .lss .o (.t 9) (.k (.i .i64 0)), none, [9]⟩])
  (.cond (.t 10) (.seq (.reg 3 none [⟨some 4, .asg (.k (.i .i64 (-1))), none, [1, 10]⟩])
  .ret) .sk))
  (.seq (.reg 4 none [⟨some 11, .mv (.t 1), none, [1, 10]⟩,
    ⟨some 4, .asg (.t 11), none, [11]⟩])
  .ret))))
  res := [.tmp 4]
  ptrs := []
  ar := 2
noncomputable def F_laws_szSeat : Fun := lock (denF m_laws_szSeat)
def m_laws_szSeatS : MFun where
  code := (.seq (.reg 0 none [⟨some 4, .asg (.k (.i .i64 0)), none, [4]⟩])
  (.seq (.reg 1 none [⟨some 6, .mv (.t 1), none, [1]⟩,
    ⟨some 7, .mv (.t 0), none, []⟩,
    ⟨some 8, .len false (.t 7), none, [7]⟩,
    ⟨some 9, .bin .sub .o (.t 6) (.t 8), none, [6, 8]⟩,
    ⟨some 1, .asg (.t 9), none, [9]⟩])
  (.seq (.seq (.reg 2 none [⟨some 10, .mv (.t 1), none, []⟩,
    ⟨some 11, .bin .lss .o (.t 10) (.k (.i .i64 0)), none, [10]⟩])
  (.cond (.t 11) (.seq (.reg 3 none [⟨some 4, .asg (.k (.i .i64 (-1))), none, [0, 1, 11]⟩])
  .ret) .sk))
  (.seq (.seq (.reg 4 none [⟨some 5, .asg (.k (.i .i64 0)), none, [11]⟩])
  (.blk 0 (.loop [0, 1, 5] (.seq (.seq (.reg 5 none [⟨some 12, .mv (.t 5), none, []⟩,
    ⟨some 13, .mv (.t 0), none, []⟩,
    ⟨some 14, .len false (.t 13), none, [13]⟩,
    ⟨some 15, .bin .lss .o (.t 12) (.t 14), none, [12, 14]⟩])
  (.cond (.t 15) .sk (.exit 0)))
  (.seq (.blk 1 (.seq (.reg 7 none [⟨some 18, .mv (.t 0), none, [15]⟩,
    ⟨some 19, .mv (.t 5), none, []⟩,
    ⟨some 20, .ia 5 (.t 18) (.t 19), none, [18, 19]⟩,
    ⟨some 21, .ld (some 5) (.t 20), none, [20]⟩,
    ⟨some 22, .mv (.t 1), none, [1]⟩,
    ⟨some 23, .call g_laws_szSeat F_laws_szSeat [(.S, (.t 21)), (.S, (.t 22))], none, [21, 22]⟩,
    ⟨some 1, .asg (.t 23), none, [23]⟩])
  (.seq (.reg 8 none [⟨some 24, .mv (.t 1), none, []⟩,
    ⟨some 25, .bin .lss .o (.t 24) (.k (.i .i64 0)), none, [24]⟩])
  (.cond (.t 25) (.seq (.reg 9 none [⟨some 4, .asg (.k (.i .i64 (-1))), none, [0, 1, 5, 25]⟩])
  .ret) .sk))))
  (.reg 6 none [⟨some 16, .mv (.t 5), none, [5, 25]⟩,
    ⟨some 17, .bin .add .o (.t 16) (.k (.i .i64 1)), none, [16]⟩,
    ⟨some 5, .asg (.t 17), none, [17]⟩]))))))
  (.seq (.reg 10 none [⟨some 26, .mv (.t 1), none, [0, 1, 5, 15]⟩,
    ⟨some 4, .asg (.t 26), none, [26]⟩])
  .ret)))))
  res := [.tmp 4]
  ptrs := []
  ar := 2
noncomputable def F_laws_szSeatS : Fun := lock (denF m_laws_szSeatS)
def m_laws_szTurn : MFun where
  code := (.seq (.reg 0 none [⟨some 2, .box true (.t 0), none, [0]⟩,
    ⟨some 4, .asg (.k (.i .i64 0)), none, [4]⟩])
  (.seq (.reg 1 none [⟨some 5, .fa (.t 2) 2, none, []⟩,
    ⟨some 6, .ld none (.t 5), none, [5]⟩,
    ⟨some 7, .mv (.t 1), none, [1]⟩,
    ⟨some 8, .call g_laws_szIntS F_laws_szIntS [(.S, (.t 6)), (.S, (.t 7))], none, [2, 6, 7]⟩,
    ⟨some 1, .asg (.t 8), none, [8]⟩])
  (.seq (.seq (.reg 2 none [⟨some 9, .mv (.t 1), none, []⟩,
    ⟨some 10, .bin .lss .o (.t 9) (.k (.i .i64 0)), none, [9]⟩])
  (.cond (.t 10) (.seq (.reg 3 none [⟨some 4, .asg (.k (.i .i64 (-1))), none, [1, 10]⟩])
  .ret) .sk))
  (.seq (.reg 4 none [⟨some 11, .mv (.t 1), none, [1, 10]⟩,
    ⟨some 4, .asg (.t 11), none, [11]⟩])
  .ret))))
  res := [.tmp 4]
  ptrs := []
  ar := 2
noncomputable def F_laws_szTurn : Fun := lock (denF m_laws_szTurn)
def m_laws_szTurnS : MFun where
  code := (.seq (.reg 0 none [⟨some 4, .asg (.k (.i .i64 0)), none, [4]⟩])
  (.seq (.reg 1 none [⟨some 6, .mv (.t 1), none, [1]⟩,
    ⟨some 7, .mv (.t 0), none, []⟩,
    ⟨some 8, .len false (.t 7), none, [7]⟩,
    ⟨some 9, .bin .sub .o (.t 6) (.t 8), none, [6, 8]⟩,
    ⟨some 1, .asg (.t 9), none, [9]⟩])
  (.seq (.seq (.reg 2 none [⟨some 10, .mv (.t 1), none, []⟩,
    ⟨some 11, .bin .lss .o (.t 10) (.k (.i .i64 0)), none, [10]⟩])
  (.cond (.t 11) (.seq (.reg 3 none [⟨some 4, .asg (.k (.i .i64 (-1))), none, [0, 1, 11]⟩])
  .ret) .sk))
  (.seq (.seq (.reg 4 none [⟨some 5, .asg (.k (.i .i64 0)), none, [11]⟩])
  (.blk 0 (.loop [0, 1, 5] (.seq (.seq (.reg 5 none [⟨some 12, .mv (.t 5), none, []⟩,
    ⟨some 13, .mv (.t 0), none, []⟩,
    ⟨some 14, .len false (.t 13), none, [13]⟩,
    ⟨some 15, .bin .lss .o (.t 12) (.t 14), none, [12, 14]⟩])
  (.cond (.t 15) .sk (.exit 0)))
  (.seq (.blk 1 (.seq (.reg 7 none [⟨some 18, .mv (.t 0), none, [15]⟩,
    ⟨some 19, .mv (.t 5), none, []⟩,
    ⟨some 20, .ia 3 (.t 18) (.t 19), none, [18, 19]⟩,
    ⟨some 21, .ld (some 3) (.t 20), none, [20]⟩,
    ⟨some 22, .mv (.t 1), none, [1]⟩,
    ⟨some 23, .call g_laws_szTurn F_laws_szTurn [(.S, (.t 21)), (.S, (.t 22))], none, [21, 22]⟩,
    ⟨some 1, .asg (.t 23), none, [23]⟩])
  (.seq (.reg 8 none [⟨some 24, .mv (.t 1), none, []⟩,
    ⟨some 25, .bin .lss .o (.t 24) (.k (.i .i64 0)), none, [24]⟩])
  (.cond (.t 25) (.seq (.reg 9 none [⟨some 4, .asg (.k (.i .i64 (-1))), none, [0, 1, 5, 25]⟩])
  .ret) .sk))))
  (.reg 6 none [⟨some 16, .mv (.t 5), none, [5, 25]⟩,
    ⟨some 17, .bin .add .o (.t 16) (.k (.i .i64 1)), none, [16]⟩,
    ⟨some 5, .asg (.t 17), none, [17]⟩]))))))
  (.seq (.reg 10 none [⟨some 26, .mv (.t 1), none, [0, 1, 5, 15]⟩,
    ⟨some 4, .asg (.t 26), none, [26]⟩])
  .ret)))))
  res := [.tmp 4]
  ptrs := []
  ar := 2
noncomputable def F_laws_szTurnS : Fun := lock (denF m_laws_szTurnS)
def m_laws_szHouse : MFun where
  code := (.seq (.reg 0 none [⟨some 2, .box true (.t 0), none, [0]⟩,
    ⟨some 4, .asg (.k (.i .i64 0)), none, [4]⟩])
  (.seq (.reg 1 none [⟨some 5, .fa (.t 2) 0, none, []⟩,
    ⟨some 6, .ld (some 8) (.t 5), none, [5]⟩,
    ⟨some 7, .mv (.t 1), none, [1]⟩,
    ⟨some 8, .call g_laws_szConf F_laws_szConf [(.S, (.t 6)), (.S, (.t 7))], none, [6, 7]⟩,
    ⟨some 1, .asg (.t 8), none, [8]⟩])
  (.seq (.seq (.reg 2 none [⟨some 9, .mv (.t 1), none, []⟩,
    ⟨some 10, .bin .lss .o (.t 9) (.k (.i .i64 0)), none, [9]⟩])
  (.cond (.t 10) (.seq (.reg 3 none [⟨some 4, .asg (.k (.i .i64 (-1))), none, [1, 2, 10]⟩])
  .ret) .sk))
  (.seq (.reg 4 none [⟨some 11, .fa (.t 2) 10, none, [10]⟩,
    ⟨some 12, .ld none (.t 11), none, [11]⟩,
    ⟨some 13, .mv (.t 1), none, [1]⟩,
    ⟨some 14, .call g_laws_szSeatS F_laws_szSeatS [(.S, (.t 12)), (.S, (.t 13))], none, [12, 13]⟩,
    ⟨some 1, .asg (.t 14), none, [14]⟩])
  (.seq (.seq (.reg 5 none [⟨some 15, .mv (.t 1), none, []⟩,
    ⟨some 16, .bin .lss .o (.t 15) (.k (.i .i64 0)), none, [15]⟩])
  (.cond (.t 16) (.seq (.reg 6 none [⟨some 4, .asg (.k (.i .i64 (-1))), none, [1, 2, 16]⟩])
  .ret) .sk))
  (.seq (.reg 7 none [⟨some 17, .fa (.t 2) 11, none, [16]⟩,
    ⟨some 18, .ld none (.t 17), none, [17]⟩,
    ⟨some 19, .mv (.t 1), none, [1]⟩,
    ⟨some 20, .call g_laws_szRowSS F_laws_szRowSS [(.S, (.t 18)), (.S, (.t 19))], none, [18, 19]⟩,
    ⟨some 1, .asg (.t 20), none, [20]⟩])
  (.seq (.seq (.reg 8 none [⟨some 21, .mv (.t 1), none, []⟩,
    ⟨some 22, .bin .lss .o (.t 21) (.k (.i .i64 0)), none, [21]⟩])
  (.cond (.t 22) (.seq (.reg 9 none [⟨some 4, .asg (.k (.i .i64 (-1))), none, [1, 2, 22]⟩])
  .ret) .sk))
  (.seq (.reg 10 none [⟨some 23, .fa (.t 2) 12, none, [22]⟩,
    ⟨some 24, .ld none (.t 23), none, [23]⟩,
    ⟨some 25, .mv (.t 1), none, [1]⟩,
    ⟨some 26, .call g_laws_szTurnS F_laws_szTurnS [(.S, (.t 24)), (.S, (.t 25))], none, [24, 25]⟩,
    ⟨some 1, .asg (.t 26), none, [26]⟩])
  (.seq (.seq (.reg 11 none [⟨some 27, .mv (.t 1), none, []⟩,
    ⟨some 28, .bin .lss .o (.t 27) (.k (.i .i64 0)), none, [27]⟩])
  (.cond (.t 28) (.seq (.reg 12 none [⟨some 4, .asg (.k (.i .i64 (-1))), none, [1, 2, 28]⟩])
  .ret) .sk))
  (.seq (.reg 13 none [⟨some 29, .fa (.t 2) 14, none, [28]⟩,
    ⟨some 30, .ld none (.t 29), none, [29]⟩,
    ⟨some 31, .mv (.t 1), none, [1]⟩,
    ⟨some 32, .call g_laws_szEntryS F_laws_szEntryS [(.S, (.t 30)), (.S, (.t 31))], none, [30, 31]⟩,
    ⟨some 1, .asg (.t 32), none, [32]⟩])
  (.seq (.seq (.reg 14 none [⟨some 33, .mv (.t 1), none, []⟩,
    ⟨some 34, .bin .lss .o (.t 33) (.k (.i .i64 0)), none, [33]⟩])
  (.cond (.t 34) (.seq (.reg 15 none [⟨some 4, .asg (.k (.i .i64 (-1))), none, [1, 2, 34]⟩])
  .ret) .sk))
  (.seq (.reg 16 none [⟨some 35, .fa (.t 2) 15, none, [34]⟩,
    ⟨some 36, .ld none (.t 35), none, [35]⟩,
    ⟨some 37, .mv (.t 1), none, [1]⟩,
    ⟨some 38, .call g_laws_szOutS F_laws_szOutS [(.S, (.t 36)), (.S, (.t 37))], none, [2, 36, 37]⟩,
    ⟨some 1, .asg (.t 38), none, [38]⟩])
  (.seq (.seq (.reg 17 none [⟨some 39, .mv (.t 1), none, []⟩,
    ⟨some 40, .bin .lss .o (.t 39) (.k (.i .i64 0)), none, [39]⟩])
  (.cond (.t 40) (.seq (.reg 18 none [⟨some 4, .asg (.k (.i .i64 (-1))), none, [1, 40]⟩])
  .ret) .sk))
  (.seq (.reg 19 none [⟨some 41, .mv (.t 1), none, [1, 40]⟩,
    ⟨some 4, .asg (.t 41), none, [41]⟩])
  .ret))))))))))))))
  res := [.tmp 4]
  ptrs := []
  ar := 2
noncomputable def F_laws_szHouse : Fun := lock (denF m_laws_szHouse)
def m_laws_szByteS : MFun where
  code := (.seq (.reg 0 none [⟨some 4, .asg (.k (.i .i64 0)), none, [4]⟩])
  (.seq (.reg 1 none [⟨some 5, .mv (.t 1), none, [1]⟩,
    ⟨some 6, .mv (.t 0), none, [0]⟩,
    ⟨some 7, .len false (.t 6), none, [6]⟩,
    ⟨some 8, .bin .sub .o (.t 5) (.t 7), none, [5, 7]⟩,
    ⟨some 1, .asg (.t 8), none, [8]⟩])
  (.seq (.seq (.reg 2 none [⟨some 9, .mv (.t 1), none, []⟩,
    ⟨some 10, .bin .lss .o (.t 9) (.k (.i .i64 0)), none, [9]⟩])
  (.cond (.t 10) (.seq (.reg 3 none [⟨some 4, .asg (.k (.i .i64 (-1))), none, [1, 10]⟩])
  .ret) .sk))
  (.seq (.reg 4 none [⟨some 11, .mv (.t 1), none, [1, 10]⟩,
    ⟨some 4, .asg (.t 11), none, [11]⟩])
  .ret))))
  res := [.tmp 4]
  ptrs := []
  ar := 2
noncomputable def F_laws_szByteS : Fun := lock (denF m_laws_szByteS)
def m_laws_szPack : MFun where
  code := (.seq (.reg 0 none [⟨some 2, .box true (.t 0), none, [0]⟩,
    ⟨some 4, .asg (.k (.i .i64 0)), none, [4]⟩])
  (.seq (.reg 1 none [⟨some 5, .fa (.t 2) 1, none, []⟩,
    ⟨some 6, .ld none (.t 5), none, [5]⟩,
    ⟨some 7, .mv (.t 1), none, [1]⟩,
    ⟨some 8, .call g_laws_szByteS F_laws_szByteS [(.S, (.t 6)), (.S, (.t 7))], none, [2, 6, 7]⟩,
    ⟨some 1, .asg (.t 8), none, [8]⟩])
  (.seq (.seq (.reg 2 none [⟨some 9, .mv (.t 1), none, []⟩,
    ⟨some 10, .bin .lss .o (.t 9) (.k (.i .i64 0)), none, [9]⟩])
  (.cond (.t 10) (.seq (.reg 3 none [⟨some 4, .asg (.k (.i .i64 (-1))), none, [1, 10]⟩])
  .ret) .sk))
  (.seq (.reg 4 none [⟨some 11, .mv (.t 1), none, [1, 10]⟩,
    ⟨some 4, .asg (.t 11), none, [11]⟩])
  .ret))))
  res := [.tmp 4]
  ptrs := []
  ar := 2
noncomputable def F_laws_szPack : Fun := lock (denF m_laws_szPack)
def m_laws_szPackS : MFun where
  code := (.seq (.reg 0 none [⟨some 4, .asg (.k (.i .i64 0)), none, [4]⟩])
  (.seq (.reg 1 none [⟨some 6, .mv (.t 1), none, [1]⟩,
    ⟨some 7, .mv (.t 0), none, []⟩,
    ⟨some 8, .len false (.t 7), none, [7]⟩,
    ⟨some 9, .bin .sub .o (.t 6) (.t 8), none, [6, 8]⟩,
    ⟨some 1, .asg (.t 9), none, [9]⟩])
  (.seq (.seq (.reg 2 none [⟨some 10, .mv (.t 1), none, []⟩,
    ⟨some 11, .bin .lss .o (.t 10) (.k (.i .i64 0)), none, [10]⟩])
  (.cond (.t 11) (.seq (.reg 3 none [⟨some 4, .asg (.k (.i .i64 (-1))), none, [0, 1, 11]⟩])
  .ret) .sk))
  (.seq (.seq (.reg 4 none [⟨some 5, .asg (.k (.i .i64 0)), none, [11]⟩])
  (.blk 0 (.loop [0, 1, 5] (.seq (.seq (.reg 5 none [⟨some 12, .mv (.t 5), none, []⟩,
    ⟨some 13, .mv (.t 0), none, []⟩,
    ⟨some 14, .len false (.t 13), none, [13]⟩,
    ⟨some 15, .bin .lss .o (.t 12) (.t 14), none, [12, 14]⟩])
  (.cond (.t 15) .sk (.exit 0)))
  (.seq (.blk 1 (.seq (.reg 7 none [⟨some 18, .mv (.t 0), none, [15]⟩,
    ⟨some 19, .mv (.t 5), none, []⟩,
    ⟨some 20, .ia 3 (.t 18) (.t 19), none, [18, 19]⟩,
    ⟨some 21, .ld (some 3) (.t 20), none, [20]⟩,
    ⟨some 22, .mv (.t 1), none, [1]⟩,
    ⟨some 23, .call g_laws_szPack F_laws_szPack [(.S, (.t 21)), (.S, (.t 22))], none, [21, 22]⟩,
    ⟨some 1, .asg (.t 23), none, [23]⟩])
  (.seq (.reg 8 none [⟨some 24, .mv (.t 1), none, []⟩,
    ⟨some 25, .bin .lss .o (.t 24) (.k (.i .i64 0)), none, [24]⟩])
  (.cond (.t 25) (.seq (.reg 9 none [⟨some 4, .asg (.k (.i .i64 (-1))), none, [0, 1, 5, 25]⟩])
  .ret) .sk))))
  (.reg 6 none [⟨some 16, .mv (.t 5), none, [5, 25]⟩,
    ⟨some 17, .bin .add .o (.t 16) (.k (.i .i64 1)), none, [16]⟩,
    ⟨some 5, .asg (.t 17), none, [17]⟩]))))))
  (.seq (.reg 10 none [⟨some 26, .mv (.t 1), none, [0, 1, 5, 15]⟩,
    ⟨some 4, .asg (.t 26), none, [26]⟩])
  .ret)))))
  res := [.tmp 4]
  ptrs := []
  ar := 2
noncomputable def F_laws_szPackS : Fun := lock (denF m_laws_szPackS)
def m_laws_szWorld : MFun where
  code := (.seq (.reg 0 none [⟨some 2, .box true (.t 0), none, [0]⟩,
    ⟨some 4, .asg (.k (.i .i64 0)), none, [4]⟩])
  (.seq (.reg 1 none [⟨some 5, .fa (.t 2) 0, none, []⟩,
    ⟨some 6, .ld none (.t 5), none, [5]⟩,
    ⟨some 7, .mv (.t 1), none, [1]⟩,
    ⟨some 8, .call g_laws_szAgentS F_laws_szAgentS [(.S, (.t 6)), (.S, (.t 7))], none, [6, 7]⟩,
    ⟨some 1, .asg (.t 8), none, [8]⟩])
  (.seq (.seq (.reg 2 none [⟨some 9, .mv (.t 1), none, []⟩,
    ⟨some 10, .bin .lss .o (.t 9) (.k (.i .i64 0)), none, [9]⟩])
  (.cond (.t 10) (.seq (.reg 3 none [⟨some 4, .asg (.k (.i .i64 (-1))), none, [1, 2, 10]⟩])
  .ret) .sk))
  (.seq (.reg 4 none [⟨some 11, .fa (.t 2) 1, none, [10]⟩,
    ⟨some 12, .ld (some 16) (.t 11), none, [11]⟩,
    ⟨some 13, .mv (.t 1), none, [1]⟩,
    ⟨some 14, .call g_laws_szHouse F_laws_szHouse [(.S, (.t 12)), (.S, (.t 13))], none, [12, 13]⟩,
    ⟨some 1, .asg (.t 14), none, [14]⟩])
  (.seq (.seq (.reg 5 none [⟨some 15, .mv (.t 1), none, []⟩,
    ⟨some 16, .bin .lss .o (.t 15) (.k (.i .i64 0)), none, [15]⟩])
  (.cond (.t 16) (.seq (.reg 6 none [⟨some 4, .asg (.k (.i .i64 (-1))), none, [1, 2, 16]⟩])
  .ret) .sk))
  (.seq (.reg 7 none [⟨some 17, .fa (.t 2) 17, none, [16]⟩,
    ⟨some 18, .ld none (.t 17), none, [17]⟩,
    ⟨some 19, .mv (.t 1), none, [1]⟩,
    ⟨some 20, .call g_laws_szPackS F_laws_szPackS [(.S, (.t 18)), (.S, (.t 19))], none, [2, 18, 19]⟩,
    ⟨some 1, .asg (.t 20), none, [20]⟩])
  (.seq (.seq (.reg 8 none [⟨some 21, .mv (.t 1), none, []⟩,
    ⟨some 22, .bin .lss .o (.t 21) (.k (.i .i64 0)), none, [21]⟩])
  (.cond (.t 22) (.seq (.reg 9 none [⟨some 4, .asg (.k (.i .i64 (-1))), none, [1, 22]⟩])
  .ret) .sk))
  (.seq (.reg 10 none [⟨some 23, .mv (.t 1), none, [1, 22]⟩,
    ⟨some 4, .asg (.t 23), none, [23]⟩])
  .ret))))))))
  res := [.tmp 4]
  ptrs := []
  ar := 2
noncomputable def F_laws_szWorld : Fun := lock (denF m_laws_szWorld)
def m_laws_toIntS : MFun where
  code := (.seq (.reg 0 none [⟨some 2, .asg (.k (.l .y 1 [])), none, [2]⟩])
  (.seq (.reg 1 none [⟨some 5, .mv (.t 0), none, []⟩,
    ⟨some 6, .len false (.t 5), none, [5]⟩,
    ⟨some 7, .mks 1 false [.i .i64 0] (.t 6) (.t 6), none, [6]⟩,
    ⟨some 3, .asg (.t 7), none, []⟩])
  (.seq (.seq (.reg 2 none [⟨some 4, .asg (.k (.i .i64 0)), none, []⟩])
  (.blk 0 (.loop [0, 3, 4, 7] (.seq (.seq (.reg 3 none [⟨some 8, .mv (.t 4), none, []⟩,
    ⟨some 9, .mv (.t 0), none, []⟩,
    ⟨some 10, .len false (.t 9), none, [9]⟩,
    ⟨some 11, .bin .lss .o (.t 8) (.t 10), none, [8, 10]⟩])
  (.cond (.t 11) .sk (.exit 0)))
  (.seq (.blk 1 (.reg 5 none [⟨some 14, .mv (.t 3), none, [11]⟩,
    ⟨some 15, .mv (.t 4), none, []⟩,
    ⟨some 16, .mv (.t 0), none, []⟩,
    ⟨some 17, .mv (.t 4), none, []⟩,
    ⟨some 18, .ia 1 (.t 16) (.t 17), none, [16, 17]⟩,
    ⟨some 19, .ld none (.t 18), none, [18]⟩,
    ⟨some 20, .ia 1 (.t 14) (.t 15), none, [14, 15]⟩,
    ⟨none, .sto 1 true (.t 20) (.t 19), none, [19, 20]⟩]))
  (.reg 4 none [⟨some 12, .mv (.t 4), none, [4]⟩,
    ⟨some 13, .bin .add .o (.t 12) (.k (.i .i64 1)), none, [12]⟩,
    ⟨some 4, .asg (.t 13), none, [13]⟩]))))))
  (.seq (.reg 6 none [⟨some 21, .mv (.t 3), none, [0, 4, 11]⟩,
    ⟨some 2, .asg (.t 21), none, [21]⟩])
  .ret))))
  res := [.tmp 2]
  ptrs := []
  ar := 1
noncomputable def F_laws_toIntS : Fun := lock (denF m_laws_toIntS)
def m_laws_toIntSS : MFun where
  code := (.seq (.reg 0 none [⟨some 2, .asg (.k (.l .y 1 [])), none, [2]⟩])
  (.seq (.reg 1 none [⟨some 5, .mv (.t 0), none, []⟩,
    ⟨some 6, .len false (.t 5), none, [5]⟩,
    ⟨some 7, .mks 1 false [.l .y 1 []] (.t 6) (.t 6), none, [6]⟩,
    ⟨some 3, .asg (.t 7), none, []⟩])
  (.seq (.seq (.reg 2 none [⟨some 4, .asg (.k (.i .i64 0)), none, []⟩])
  (.blk 0 (.loop [0, 3, 4, 7] (.seq (.seq (.reg 3 none [⟨some 8, .mv (.t 4), none, []⟩,
    ⟨some 9, .mv (.t 0), none, []⟩,
    ⟨some 10, .len false (.t 9), none, [9]⟩,
    ⟨some 11, .bin .lss .o (.t 8) (.t 10), none, [8, 10]⟩])
  (.cond (.t 11) .sk (.exit 0)))
  (.seq (.blk 1 (.reg 5 none [⟨some 14, .mv (.t 3), none, [11]⟩,
    ⟨some 15, .mv (.t 4), none, []⟩,
    ⟨some 16, .mv (.t 0), none, []⟩,
    ⟨some 17, .mv (.t 4), none, []⟩,
    ⟨some 18, .ia 1 (.t 16) (.t 17), none, [16, 17]⟩,
    ⟨some 19, .ld none (.t 18), none, [18]⟩,
    ⟨some 20, .call g_laws_toIntS F_laws_toIntS [(.S, (.t 19))], none, [19]⟩,
    ⟨some 21, .ia 1 (.t 14) (.t 15), none, [14, 15]⟩,
    ⟨none, .sto 1 true (.t 21) (.t 20), none, [20, 21]⟩]))
  (.reg 4 none [⟨some 12, .mv (.t 4), none, [4]⟩,
    ⟨some 13, .bin .add .o (.t 12) (.k (.i .i64 1)), none, [12]⟩,
    ⟨some 4, .asg (.t 13), none, [13]⟩]))))))
  (.seq (.reg 6 none [⟨some 22, .mv (.t 3), none, [0, 4, 11]⟩,
    ⟨some 2, .asg (.t 22), none, [22]⟩])
  .ret))))
  res := [.tmp 2]
  ptrs := []
  ar := 1
noncomputable def F_laws_toIntSS : Fun := lock (denF m_laws_toIntSS)
def m_laws_toSketch : MFun where
  code := (.seq (.reg 0 none [⟨some 1, .box true (.t 0), none, [0]⟩,
    ⟨some 2, .alloc [.i .i64 0, .i .i64 0, .i .i64 0, .i .i64 0, .l .y 1 [], .l .y 1 [], .l .y 1 []], none, []⟩])
  (.seq (.reg 1 none [⟨some 3, .alloc [.i .i64 0, .i .i64 0, .i .i64 0, .i .i64 0, .l .y 1 [], .l .y 1 [], .l .y 1 []], none, []⟩])
  (.seq (.reg 2 none [⟨some 4, .fa (.t 1) 0, none, []⟩,
    ⟨some 5, .ld none (.t 4), none, [4]⟩,
    ⟨some 6, .fa (.t 3) 0, none, []⟩,
    ⟨none, .sto 1 true (.t 6) (.t 5), none, [5, 6]⟩])
  (.seq (.reg 3 none [⟨some 7, .fa (.t 1) 1, none, []⟩,
    ⟨some 8, .ld none (.t 7), none, [7]⟩,
    ⟨some 9, .fa (.t 3) 1, none, []⟩,
    ⟨none, .sto 1 true (.t 9) (.t 8), none, [8, 9]⟩])
  (.seq (.reg 4 none [⟨some 10, .fa (.t 1) 2, none, []⟩,
    ⟨some 11, .ld none (.t 10), none, [10]⟩,
    ⟨some 12, .fa (.t 3) 2, none, []⟩,
    ⟨none, .sto 1 true (.t 12) (.t 11), none, [11, 12]⟩])
  (.seq (.reg 5 none [⟨some 13, .fa (.t 1) 3, none, []⟩,
    ⟨some 14, .ld none (.t 13), none, [13]⟩,
    ⟨some 15, .fa (.t 3) 3, none, []⟩,
    ⟨none, .sto 1 true (.t 15) (.t 14), none, [14, 15]⟩])
  (.seq (.reg 6 none [⟨some 16, .fa (.t 1) 4, none, []⟩,
    ⟨some 17, .ld none (.t 16), none, [16]⟩,
    ⟨some 18, .call g_laws_toIntS F_laws_toIntS [(.S, (.t 17))], none, [17]⟩,
    ⟨some 19, .fa (.t 3) 4, none, []⟩,
    ⟨none, .sto 1 true (.t 19) (.t 18), none, [18, 19]⟩])
  (.seq (.reg 7 none [⟨some 20, .fa (.t 1) 5, none, []⟩,
    ⟨some 21, .ld none (.t 20), none, [20]⟩,
    ⟨some 22, .call g_laws_toIntS F_laws_toIntS [(.S, (.t 21))], none, [21]⟩,
    ⟨some 23, .fa (.t 3) 5, none, []⟩,
    ⟨none, .sto 1 true (.t 23) (.t 22), none, [22, 23]⟩])
  (.seq (.reg 8 none [⟨some 24, .fa (.t 1) 6, none, []⟩,
    ⟨some 25, .ld none (.t 24), none, [24]⟩,
    ⟨some 26, .call g_laws_toIntSS F_laws_toIntSS [(.S, (.t 25))], none, [1, 25]⟩,
    ⟨some 27, .fa (.t 3) 6, none, []⟩,
    ⟨none, .sto 1 true (.t 27) (.t 26), none, [26, 27]⟩])
  (.seq (.reg 9 none [⟨some 28, .ld (some 7) (.t 3), none, []⟩,
    ⟨none, .sto 7 true (.t 2) (.t 28), none, [3, 28]⟩])
  .ret))))))))))
  res := [.cell 2 (some 7)]
  ptrs := []
  ar := 1
noncomputable def F_laws_toSketch : Fun := lock (denF m_laws_toSketch)
def m_laws_toItem : MFun where
  code := (.seq (.reg 0 none [⟨some 1, .box true (.t 0), none, [0]⟩,
    ⟨some 2, .alloc [.i .i64 0, .i .i64 0, .i .i64 0, .i .i64 0, .i .i64 0, .i .i64 0, .i .i64 0, .i .i64 0, .l .y 1 [], .l .y 1 [], .l .y 1 []], none, []⟩])
  (.seq (.reg 1 none [⟨some 3, .alloc [.i .i64 0, .i .i64 0, .i .i64 0, .i .i64 0, .i .i64 0, .i .i64 0, .i .i64 0, .i .i64 0, .l .y 1 [], .l .y 1 [], .l .y 1 []], none, []⟩])
  (.seq (.reg 2 none [⟨some 4, .fa (.t 1) 0, none, []⟩,
    ⟨some 5, .ld none (.t 4), none, [4]⟩,
    ⟨some 6, .fa (.t 3) 0, none, []⟩,
    ⟨none, .sto 1 true (.t 6) (.t 5), none, [5, 6]⟩])
  (.seq (.reg 3 none [⟨some 7, .fa (.t 1) 1, none, []⟩,
    ⟨some 8, .ld none (.t 7), none, [7]⟩,
    ⟨some 9, .fa (.t 3) 1, none, []⟩,
    ⟨none, .sto 1 true (.t 9) (.t 8), none, [8, 9]⟩])
  (.seq (.reg 4 none [⟨some 10, .fa (.t 1) 2, none, []⟩,
    ⟨some 11, .ld none (.t 10), none, [10]⟩,
    ⟨some 12, .fa (.t 3) 2, none, []⟩,
    ⟨none, .sto 1 true (.t 12) (.t 11), none, [11, 12]⟩])
  (.seq (.reg 5 none [⟨some 13, .fa (.t 1) 3, none, []⟩,
    ⟨some 14, .ld none (.t 13), none, [13]⟩,
    ⟨some 15, .fa (.t 3) 3, none, []⟩,
    ⟨none, .sto 1 true (.t 15) (.t 14), none, [14, 15]⟩])
  (.seq (.reg 6 none [⟨some 16, .fa (.t 1) 4, none, []⟩,
    ⟨some 17, .ld (some 7) (.t 16), none, [16]⟩,
    ⟨some 18, .call g_laws_toSketch F_laws_toSketch [(.S, (.t 17))], none, [1, 17]⟩,
    ⟨some 19, .fa (.t 3) 4, none, []⟩,
    ⟨none, .sto 7 true (.t 19) (.t 18), none, [18, 19]⟩])
  (.seq (.reg 7 none [⟨some 20, .ld (some 11) (.t 3), none, []⟩,
    ⟨none, .sto 11 true (.t 2) (.t 20), none, [3, 20]⟩])
  .ret))))))))
  res := [.cell 2 (some 11)]
  ptrs := []
  ar := 1
noncomputable def F_laws_toItem : Fun := lock (denF m_laws_toItem)
def m_laws_toItemS : MFun where
  code := (.seq (.reg 0 none [⟨some 2, .asg (.k (.l .y 11 [])), none, [2]⟩])
  (.seq (.reg 1 none [⟨some 5, .mv (.t 0), none, []⟩,
    ⟨some 6, .len false (.t 5), none, [5]⟩,
    ⟨some 7, .mks 11 true [.i .i64 0, .i .i64 0, .i .i64 0, .i .i64 0, .i .i64 0, .i .i64 0, .i .i64 0, .i .i64 0, .l .y 1 [], .l .y 1 [], .l .y 1 []] (.t 6) (.t 6), none, [6]⟩,
    ⟨some 3, .asg (.t 7), none, []⟩])
  (.seq (.seq (.reg 2 none [⟨some 4, .asg (.k (.i .i64 0)), none, []⟩])
  (.blk 0 (.loop [0, 3, 4, 7] (.seq (.seq (.reg 3 none [⟨some 8, .mv (.t 4), none, []⟩,
    ⟨some 9, .mv (.t 0), none, []⟩,
    ⟨some 10, .len false (.t 9), none, [9]⟩,
    ⟨some 11, .bin .lss .o (.t 8) (.t 10), none, [8, 10]⟩])
  (.cond (.t 11) .sk (.exit 0)))
  (.seq (.blk 1 (.reg 5 none [⟨some 14, .mv (.t 3), none, [11]⟩,
    ⟨some 15, .mv (.t 4), none, []⟩,
    ⟨some 16, .mv (.t 0), none, []⟩,
    ⟨some 17, .mv (.t 4), none, []⟩,
    ⟨some 18, .ia 11 (.t 16) (.t 17), none, [16, 17]⟩,
    ⟨some 19, .ld (some 11) (.t 18), none, [18]⟩,
    ⟨some 20, .call g_laws_toItem F_laws_toItem [(.S, (.t 19))], none, [19]⟩,
    ⟨some 21, .ia 11 (.t 14) (.t 15), none, [14, 15]⟩,
    ⟨none, .sto 11 true (.t 21) (.t 20), none, [20, 21]⟩]))
  (.reg 4 none [⟨some 12, .mv (.t 4), none, [4]⟩,
    ⟨some 13, .bin .add .o (.t 12) (.k (.i .i64 1)), none, [12]⟩,
    ⟨some 4, .asg (.t 13), none, [13]⟩]))))))
  (.seq (.reg 6 none [⟨some 22, .mv (.t 3), none, [0, 4, 11]⟩,
    ⟨some 2, .asg (.t 22), none, [22]⟩])
  .ret))))
  res := [.tmp 2]
  ptrs := []
  ar := 1
noncomputable def F_laws_toItemS : Fun := lock (denF m_laws_toItemS)
def m_laws_toSpan : MFun where
  code := (.seq (.reg 0 none [⟨some 1, .box true (.t 0), none, [0]⟩,
    ⟨some 2, .alloc [.i .i64 0, .i .i64 0], none, []⟩])
  (.seq (.reg 1 none [⟨some 3, .alloc [.i .i64 0, .i .i64 0], none, []⟩])
  (.seq (.reg 2 none [⟨some 4, .fa (.t 1) 0, none, []⟩,
    ⟨some 5, .ld none (.t 4), none, [4]⟩,
    ⟨some 6, .fa (.t 3) 0, none, []⟩,
    ⟨none, .sto 1 true (.t 6) (.t 5), none, [5, 6]⟩])
  (.seq (.reg 3 none [⟨some 7, .fa (.t 1) 1, none, []⟩,
    ⟨some 8, .ld none (.t 7), none, [1, 7]⟩,
    ⟨some 9, .fa (.t 3) 1, none, []⟩,
    ⟨none, .sto 1 true (.t 9) (.t 8), none, [8, 9]⟩])
  (.seq (.reg 4 none [⟨some 10, .ld (some 2) (.t 3), none, [3]⟩,
    ⟨none, .sto 2 true (.t 2) (.t 10), none, [10]⟩])
  .ret)))))
  res := [.cell 2 (some 2)]
  ptrs := []
  ar := 1
noncomputable def F_laws_toSpan : Fun := lock (denF m_laws_toSpan)
def m_laws_toSpanS : MFun where
  code := (.seq (.reg 0 none [⟨some 2, .asg (.k (.l .y 2 [])), none, [2]⟩])
  (.seq (.reg 1 none [⟨some 5, .mv (.t 0), none, []⟩,
    ⟨some 6, .len false (.t 5), none, [5]⟩,
    ⟨some 7, .mks 2 true [.i .i64 0, .i .i64 0] (.t 6) (.t 6), none, [6]⟩,
    ⟨some 3, .asg (.t 7), none, []⟩])
  (.seq (.seq (.reg 2 none [⟨some 4, .asg (.k (.i .i64 0)), none, []⟩])
  (.blk 0 (.loop [0, 3, 4, 7] (.seq (.seq (.reg 3 none [⟨some 8, .mv (.t 4), none, []⟩,
    ⟨some 9, .mv (.t 0), none, []⟩,
    ⟨some 10, .len false (.t 9), none, [9]⟩,
    ⟨some 11, .bin .lss .o (.t 8) (.t 10), none, [8, 10]⟩])
  (.cond (.t 11) .sk (.exit 0)))
  (.seq (.blk 1 (.reg 5 none [⟨some 14, .mv (.t 3), none, [11]⟩,
    ⟨some 15, .mv (.t 4), none, []⟩,
    ⟨some 16, .mv (.t 0), none, []⟩,
    ⟨some 17, .mv (.t 4), none, []⟩,
    ⟨some 18, .ia 2 (.t 16) (.t 17), none, [16, 17]⟩,
    ⟨some 19, .ld (some 2) (.t 18), none, [18]⟩,
    ⟨some 20, .call g_laws_toSpan F_laws_toSpan [(.S, (.t 19))], none, [19]⟩,
    ⟨some 21, .ia 2 (.t 14) (.t 15), none, [14, 15]⟩,
    ⟨none, .sto 2 true (.t 21) (.t 20), none, [20, 21]⟩]))
  (.reg 4 none [⟨some 12, .mv (.t 4), none, [4]⟩,
    ⟨some 13, .bin .add .o (.t 12) (.k (.i .i64 1)), none, [12]⟩,
    ⟨some 4, .asg (.t 13), none, [13]⟩]))))))
  (.seq (.reg 6 none [⟨some 22, .mv (.t 3), none, [0, 4, 11]⟩,
    ⟨some 2, .asg (.t 22), none, [22]⟩])
  .ret))))
  res := [.tmp 2]
  ptrs := []
  ar := 1
noncomputable def F_laws_toSpanS : Fun := lock (denF m_laws_toSpanS)
def m_laws_toAgent : MFun where
  code := (.seq (.reg 0 none [⟨some 1, .box true (.t 0), none, [0]⟩,
    ⟨some 2, .alloc [.i .i64 0, .i .i64 0, .b false, .i .i64 0, .l .y 11 [], .l .y 2 [], .i .i64 0], none, []⟩])
  (.seq (.reg 1 none [⟨some 3, .alloc [.i .i64 0, .i .i64 0, .b false, .i .i64 0, .l .y 11 [], .l .y 2 [], .i .i64 0], none, []⟩])
  (.seq (.reg 2 none [⟨some 4, .fa (.t 1) 0, none, []⟩,
    ⟨some 5, .ld none (.t 4), none, [4]⟩,
    ⟨some 6, .fa (.t 3) 0, none, []⟩,
    ⟨none, .sto 1 true (.t 6) (.t 5), none, [5, 6]⟩])
  (.seq (.reg 3 none [⟨some 7, .fa (.t 1) 1, none, []⟩,
    ⟨some 8, .ld none (.t 7), none, [7]⟩,
    ⟨some 9, .fa (.t 3) 1, none, []⟩,
    ⟨none, .sto 1 true (.t 9) (.t 8), none, [8, 9]⟩])
  (.seq (.reg 4 none [⟨some 10, .fa (.t 1) 2, none, []⟩,
    ⟨some 11, .ld none (.t 10), none, [10]⟩,
    ⟨some 12, .fa (.t 3) 2, none, []⟩,
    ⟨none, .sto 1 true (.t 12) (.t 11), none, [11, 12]⟩])
  (.seq (.reg 5 none [⟨some 13, .fa (.t 1) 3, none, []⟩,
    ⟨some 14, .ld none (.t 13), none, [13]⟩,
    ⟨some 15, .fa (.t 3) 3, none, []⟩,
    ⟨none, .sto 1 true (.t 15) (.t 14), none, [14, 15]⟩])
  (.seq (.reg 6 none [⟨some 16, .fa (.t 1) 4, none, []⟩,
    ⟨some 17, .ld none (.t 16), none, [16]⟩,
    ⟨some 18, .call g_laws_toItemS F_laws_toItemS [(.S, (.t 17))], none, [17]⟩,
    ⟨some 19, .fa (.t 3) 4, none, []⟩,
    ⟨none, .sto 1 true (.t 19) (.t 18), none, [18, 19]⟩])
  (.seq (.reg 7 none [⟨some 20, .fa (.t 1) 5, none, []⟩,
    ⟨some 21, .ld none (.t 20), none, [20]⟩,
    ⟨some 22, .call g_laws_toSpanS F_laws_toSpanS [(.S, (.t 21))], none, [21]⟩,
    ⟨some 23, .fa (.t 3) 5, none, []⟩,
    ⟨none, .sto 1 true (.t 23) (.t 22), none, [22, 23]⟩])
  (.seq (.reg 8 none [⟨some 24, .fa (.t 1) 6, none, []⟩,
    ⟨some 25, .ld none (.t 24), none, [1, 24]⟩,
    ⟨some 26, .fa (.t 3) 6, none, []⟩,
    ⟨none, .sto 1 true (.t 26) (.t 25), none, [25, 26]⟩])
  (.seq (.reg 9 none [⟨some 27, .ld (some 7) (.t 3), none, []⟩,
    ⟨none, .sto 7 true (.t 2) (.t 27), none, [3, 27]⟩])
  .ret))))))))))
  res := [.cell 2 (some 7)]
  ptrs := []
  ar := 1
noncomputable def F_laws_toAgent : Fun := lock (denF m_laws_toAgent)
def m_laws_toAgentS : MFun where
  code := (.seq (.reg 0 none [⟨some 2, .asg (.k (.l .y 7 [])), none, [2]⟩])
  (.seq (.reg 1 none [⟨some 5, .mv (.t 0), none, []⟩,
    ⟨some 6, .len false (.t 5), none, [5]⟩,
    ⟨some 7, .mks 7 true [.i .i64 0, .i .i64 0, .b false, .i .i64 0, .l .y 11 [], .l .y 2 [], .i .i64 0] (.t 6) (.t 6), none, [6]⟩,
    ⟨some 3, .asg (.t 7), none, []⟩])
  (.seq (.seq (.reg 2 none [⟨some 4, .asg (.k (.i .i64 0)), none, []⟩])
  (.blk 0 (.loop [0, 3, 4, 7] (.seq (.seq (.reg 3 none [⟨some 8, .mv (.t 4), none, []⟩,
    ⟨some 9, .mv (.t 0), none, []⟩,
    ⟨some 10, .len false (.t 9), none, [9]⟩,
    ⟨some 11, .bin .lss .o (.t 8) (.t 10), none, [8, 10]⟩])
  (.cond (.t 11) .sk (.exit 0)))
  (.seq (.blk 1 (.reg 5 none [⟨some 14, .mv (.t 3), none, [11]⟩,
    ⟨some 15, .mv (.t 4), none, []⟩,
    ⟨some 16, .mv (.t 0), none, []⟩,
    ⟨some 17, .mv (.t 4), none, []⟩,
    ⟨some 18, .ia 7 (.t 16) (.t 17), none, [16, 17]⟩,
    ⟨some 19, .ld (some 7) (.t 18), none, [18]⟩,
    ⟨some 20, .call g_laws_toAgent F_laws_toAgent [(.S, (.t 19))], none, [19]⟩,
    ⟨some 21, .ia 7 (.t 14) (.t 15), none, [14, 15]⟩,
    ⟨none, .sto 7 true (.t 21) (.t 20), none, [20, 21]⟩]))
  (.reg 4 none [⟨some 12, .mv (.t 4), none, [4]⟩,
    ⟨some 13, .bin .add .o (.t 12) (.k (.i .i64 1)), none, [12]⟩,
    ⟨some 4, .asg (.t 13), none, [13]⟩]))))))
  (.seq (.reg 6 none [⟨some 22, .mv (.t 3), none, [0, 4, 11]⟩,
    ⟨some 2, .asg (.t 22), none, [22]⟩])
  .ret))))
  res := [.tmp 2]
  ptrs := []
  ar := 1
noncomputable def F_laws_toAgentS : Fun := lock (denF m_laws_toAgentS)
def m_laws_toConf : MFun where
  code := (.seq (.reg 0 none [⟨some 1, .box true (.t 0), none, [0]⟩,
    ⟨some 2, .alloc [.i .i64 0, .i .i64 0, .i .i64 0, .l .y 1 [], .i .i64 0, .i .i64 0, .i .i64 0, .i .i64 0], none, []⟩])
  (.seq (.reg 1 none [⟨some 3, .alloc [.i .i64 0, .i .i64 0, .i .i64 0, .l .y 1 [], .i .i64 0, .i .i64 0, .i .i64 0, .i .i64 0], none, []⟩])
  (.seq (.reg 2 none [⟨some 4, .fa (.t 1) 0, none, []⟩,
    ⟨some 5, .ld none (.t 4), none, [4]⟩,
    ⟨some 6, .fa (.t 3) 0, none, []⟩,
    ⟨none, .sto 1 true (.t 6) (.t 5), none, [5, 6]⟩])
  (.seq (.reg 3 none [⟨some 7, .fa (.t 1) 1, none, []⟩,
    ⟨some 8, .ld none (.t 7), none, [7]⟩,
    ⟨some 9, .fa (.t 3) 1, none, []⟩,
    ⟨none, .sto 1 true (.t 9) (.t 8), none, [8, 9]⟩])
  (.seq (.reg 4 none [⟨some 10, .fa (.t 1) 2, none, []⟩,
    ⟨some 11, .ld none (.t 10), none, [10]⟩,
    ⟨some 12, .fa (.t 3) 2, none, []⟩,
    ⟨none, .sto 1 true (.t 12) (.t 11), none, [11, 12]⟩])
  (.seq (.reg 5 none [⟨some 13, .fa (.t 1) 3, none, []⟩,
    ⟨some 14, .ld none (.t 13), none, [13]⟩,
    ⟨some 15, .call g_laws_toIntS F_laws_toIntS [(.S, (.t 14))], none, [14]⟩,
    ⟨some 16, .fa (.t 3) 3, none, []⟩,
    ⟨none, .sto 1 true (.t 16) (.t 15), none, [15, 16]⟩])
  (.seq (.reg 6 none [⟨some 17, .fa (.t 1) 4, none, []⟩,
    ⟨some 18, .ld none (.t 17), none, [17]⟩,
    ⟨some 19, .fa (.t 3) 4, none, []⟩,
    ⟨none, .sto 1 true (.t 19) (.t 18), none, [18, 19]⟩])
  (.seq (.reg 7 none [⟨some 20, .fa (.t 1) 5, none, []⟩,
    ⟨some 21, .ld none (.t 20), none, [20]⟩,
    ⟨some 22, .fa (.t 3) 5, none, []⟩,
    ⟨none, .sto 1 true (.t 22) (.t 21), none, [21, 22]⟩])
  (.seq (.reg 8 none [⟨some 23, .fa (.t 1) 6, none, []⟩,
    ⟨some 24, .ld none (.t 23), none, [23]⟩,
    ⟨some 25, .fa (.t 3) 6, none, []⟩,
    ⟨none, .sto 1 true (.t 25) (.t 24), none, [24, 25]⟩])
  (.seq (.reg 9 none [⟨some 26, .fa (.t 1) 7, none, []⟩,
    ⟨some 27, .ld none (.t 26), none, [1, 26]⟩,
    ⟨some 28, .fa (.t 3) 7, none, []⟩,
    ⟨none, .sto 1 true (.t 28) (.t 27), none, [27, 28]⟩])
  (.seq (.reg 10 none [⟨some 29, .ld (some 8) (.t 3), none, []⟩,
    ⟨none, .sto 8 true (.t 2) (.t 29), none, [3, 29]⟩])
  .ret)))))))))))
  res := [.cell 2 (some 8)]
  ptrs := []
  ar := 1
noncomputable def F_laws_toConf : Fun := lock (denF m_laws_toConf)
def m_laws_toEntry : MFun where
  code := (.seq (.reg 0 none [⟨some 1, .box true (.t 0), none, [0]⟩,
    ⟨some 2, .alloc [.i .i64 0, .i .i64 0, .l .y 2 [], .i .i64 0, .i .i64 0, .i .i64 0, .i .i64 0, .l .y 1 [], .l .y 1 [], .l .y 1 []], none, []⟩])
  (.seq (.reg 1 none [⟨some 3, .alloc [.i .i64 0, .i .i64 0, .l .y 2 [], .i .i64 0, .i .i64 0, .i .i64 0, .i .i64 0, .l .y 1 [], .l .y 1 [], .l .y 1 []], none, []⟩])
  (.seq (.reg 2 none [⟨some 4, .fa (.t 1) 0, none, []⟩,
    ⟨some 5, .ld none (.t 4), none, [4]⟩,
    ⟨some 6, .fa (.t 3) 0, none, []⟩,
    ⟨none, .sto 1 true (.t 6) (.t 5), none, [5, 6]⟩])
  (.seq (.reg 3 none [⟨some 7, .fa (.t 1) 1, none, []⟩,
    ⟨some 8, .ld none (.t 7), none, [7]⟩,
    ⟨some 9, .fa (.t 3) 1, none, []⟩,
    ⟨none, .sto 1 true (.t 9) (.t 8), none, [8, 9]⟩])
  (.seq (.reg 4 none [⟨some 10, .fa (.t 1) 2, none, []⟩,
    ⟨some 11, .ld none (.t 10), none, [10]⟩,
    ⟨some 12, .call g_laws_toSpanS F_laws_toSpanS [(.S, (.t 11))], none, [11]⟩,
    ⟨some 13, .fa (.t 3) 2, none, []⟩,
    ⟨none, .sto 1 true (.t 13) (.t 12), none, [12, 13]⟩])
  (.seq (.reg 5 none [⟨some 14, .fa (.t 1) 3, none, []⟩,
    ⟨some 15, .ld (some 7) (.t 14), none, [14]⟩,
    ⟨some 16, .call g_laws_toSketch F_laws_toSketch [(.S, (.t 15))], none, [1, 15]⟩,
    ⟨some 17, .fa (.t 3) 3, none, []⟩,
    ⟨none, .sto 7 true (.t 17) (.t 16), none, [16, 17]⟩])
  (.seq (.reg 6 none [⟨some 18, .ld (some 10) (.t 3), none, []⟩,
    ⟨none, .sto 10 true (.t 2) (.t 18), none, [3, 18]⟩])
  .ret)))))))
  res := [.cell 2 (some 10)]
  ptrs := []
  ar := 1
noncomputable def F_laws_toEntry : Fun := lock (denF m_laws_toEntry)
def m_laws_toEntryS : MFun where
  code := (.seq (.reg 0 none [⟨some 2, .asg (.k (.l .y 10 [])), none, [2]⟩])
  (.seq (.reg 1 none [⟨some 5, .mv (.t 0), none, []⟩,
    ⟨some 6, .len false (.t 5), none, [5]⟩,
    ⟨some 7, .mks 10 true [.i .i64 0, .i .i64 0, .l .y 2 [], .i .i64 0, .i .i64 0, .i .i64 0, .i .i64 0, .l .y 1 [], .l .y 1 [], .l .y 1 []] (.t 6) (.t 6), none, [6]⟩,
    ⟨some 3, .asg (.t 7), none, []⟩])
  (.seq (.seq (.reg 2 none [⟨some 4, .asg (.k (.i .i64 0)), none, []⟩])
  (.blk 0 (.loop [0, 3, 4, 7] (.seq (.seq (.reg 3 none [⟨some 8, .mv (.t 4), none, []⟩,
    ⟨some 9, .mv (.t 0), none, []⟩,
    ⟨some 10, .len false (.t 9), none, [9]⟩,
    ⟨some 11, .bin .lss .o (.t 8) (.t 10), none, [8, 10]⟩])
  (.cond (.t 11) .sk (.exit 0)))
  (.seq (.blk 1 (.reg 5 none [⟨some 14, .mv (.t 3), none, [11]⟩,
    ⟨some 15, .mv (.t 4), none, []⟩,
    ⟨some 16, .mv (.t 0), none, []⟩,
    ⟨some 17, .mv (.t 4), none, []⟩,
    ⟨some 18, .ia 10 (.t 16) (.t 17), none, [16, 17]⟩,
    ⟨some 19, .ld (some 10) (.t 18), none, [18]⟩,
    ⟨some 20, .call g_laws_toEntry F_laws_toEntry [(.S, (.t 19))], none, [19]⟩,
    ⟨some 21, .ia 10 (.t 14) (.t 15), none, [14, 15]⟩,
    ⟨none, .sto 10 true (.t 21) (.t 20), none, [20, 21]⟩]))
  (.reg 4 none [⟨some 12, .mv (.t 4), none, [4]⟩,
    ⟨some 13, .bin .add .o (.t 12) (.k (.i .i64 1)), none, [12]⟩,
    ⟨some 4, .asg (.t 13), none, [13]⟩]))))))
  (.seq (.reg 6 none [⟨some 22, .mv (.t 3), none, [0, 4, 11]⟩,
    ⟨some 2, .asg (.t 22), none, [22]⟩])
  .ret))))
  res := [.tmp 2]
  ptrs := []
  ar := 1
noncomputable def F_laws_toEntryS : Fun := lock (denF m_laws_toEntryS)
def m_laws_toOut : MFun where
  code := (.seq (.reg 0 none [⟨some 1, .box true (.t 0), none, [0]⟩,
    ⟨some 2, .alloc [.i .i64 0, .i .i64 0, .i .i64 0, .l .y 2 [], .i .i64 0, .i .i64 0, .i .i64 0, .i .i64 0, .l .y 1 [], .l .y 1 [], .l .y 1 []], none, []⟩])
  (.seq (.reg 1 none [⟨some 3, .alloc [.i .i64 0, .i .i64 0, .i .i64 0, .l .y 2 [], .i .i64 0, .i .i64 0, .i .i64 0, .i .i64 0, .l .y 1 [], .l .y 1 [], .l .y 1 []], none, []⟩])
  (.seq (.reg 2 none [⟨some 4, .fa (.t 1) 0, none, []⟩,
    ⟨some 5, .ld none (.t 4), none, [4]⟩,
    ⟨some 6, .fa (.t 3) 0, none, []⟩,
    ⟨none, .sto 1 true (.t 6) (.t 5), none, [5, 6]⟩])
  (.seq (.reg 3 none [⟨some 7, .fa (.t 1) 1, none, []⟩,
    ⟨some 8, .ld (some 10) (.t 7), none, [7]⟩,
    ⟨some 9, .call g_laws_toEntry F_laws_toEntry [(.S, (.t 8))], none, [1, 8]⟩,
    ⟨some 10, .fa (.t 3) 1, none, []⟩,
    ⟨none, .sto 10 true (.t 10) (.t 9), none, [9, 10]⟩])
  (.seq (.reg 4 none [⟨some 11, .ld (some 11) (.t 3), none, []⟩,
    ⟨none, .sto 11 true (.t 2) (.t 11), none, [3, 11]⟩])
  .ret)))))
  res := [.cell 2 (some 11)]
  ptrs := []
  ar := 1
noncomputable def F_laws_toOut : Fun := lock (denF m_laws_toOut)
def m_laws_toOutS : MFun where
  code := (.seq (.reg 0 none [⟨some 2, .asg (.k (.l .y 11 [])), none, [2]⟩])
  (.seq (.reg 1 none [⟨some 5, .mv (.t 0), none, []⟩,
    ⟨some 6, .len false (.t 5), none, [5]⟩,
    ⟨some 7, .mks 11 true [.i .i64 0, .i .i64 0, .i .i64 0, .l .y 2 [], .i .i64 0, .i .i64 0, .i .i64 0, .i .i64 0, .l .y 1 [], .l .y 1 [], .l .y 1 []] (.t 6) (.t 6), none, [6]⟩,
    ⟨some 3, .asg (.t 7), none, []⟩])
  (.seq (.seq (.reg 2 none [⟨some 4, .asg (.k (.i .i64 0)), none, []⟩])
  (.blk 0 (.loop [0, 3, 4, 7] (.seq (.seq (.reg 3 none [⟨some 8, .mv (.t 4), none, []⟩,
    ⟨some 9, .mv (.t 0), none, []⟩,
    ⟨some 10, .len false (.t 9), none, [9]⟩,
    ⟨some 11, .bin .lss .o (.t 8) (.t 10), none, [8, 10]⟩])
  (.cond (.t 11) .sk (.exit 0)))
  (.seq (.blk 1 (.reg 5 none [⟨some 14, .mv (.t 3), none, [11]⟩,
    ⟨some 15, .mv (.t 4), none, []⟩,
    ⟨some 16, .mv (.t 0), none, []⟩,
    ⟨some 17, .mv (.t 4), none, []⟩,
    ⟨some 18, .ia 11 (.t 16) (.t 17), none, [16, 17]⟩,
    ⟨some 19, .ld (some 11) (.t 18), none, [18]⟩,
    ⟨some 20, .call g_laws_toOut F_laws_toOut [(.S, (.t 19))], none, [19]⟩,
    ⟨some 21, .ia 11 (.t 14) (.t 15), none, [14, 15]⟩,
    ⟨none, .sto 11 true (.t 21) (.t 20), none, [20, 21]⟩]))
  (.reg 4 none [⟨some 12, .mv (.t 4), none, [4]⟩,
    ⟨some 13, .bin .add .o (.t 12) (.k (.i .i64 1)), none, [12]⟩,
    ⟨some 4, .asg (.t 13), none, [13]⟩]))))))
  (.seq (.reg 6 none [⟨some 22, .mv (.t 3), none, [0, 4, 11]⟩,
    ⟨some 2, .asg (.t 22), none, [22]⟩])
  .ret))))
  res := [.tmp 2]
  ptrs := []
  ar := 1
noncomputable def F_laws_toOutS : Fun := lock (denF m_laws_toOutS)
def m_laws_toRow : MFun where
  code := (.seq (.reg 0 none [⟨some 1, .box true (.t 0), none, [0]⟩,
    ⟨some 2, .alloc [.l .y 10 []], none, []⟩])
  (.seq (.reg 1 none [⟨some 3, .alloc [.l .y 10 []], none, []⟩])
  (.seq (.reg 2 none [⟨some 4, .fa (.t 1) 0, none, []⟩,
    ⟨some 5, .ld none (.t 4), none, [4]⟩,
    ⟨some 6, .call g_laws_toEntryS F_laws_toEntryS [(.S, (.t 5))], none, [1, 5]⟩,
    ⟨some 7, .fa (.t 3) 0, none, []⟩,
    ⟨none, .sto 1 true (.t 7) (.t 6), none, [6, 7]⟩])
  (.seq (.reg 3 none [⟨some 8, .ld (some 1) (.t 3), none, []⟩,
    ⟨none, .sto 1 true (.t 2) (.t 8), none, [3, 8]⟩])
  .ret))))
  res := [.cell 2 (some 1)]
  ptrs := []
  ar := 1
noncomputable def F_laws_toRow : Fun := lock (denF m_laws_toRow)
def m_laws_toRowS : MFun where
  code := (.seq (.reg 0 none [⟨some 2, .asg (.k (.l .y 1 [])), none, [2]⟩])
  (.seq (.reg 1 none [⟨some 5, .mv (.t 0), none, []⟩,
    ⟨some 6, .len false (.t 5), none, [5]⟩,
    ⟨some 7, .mks 1 true [.l .y 10 []] (.t 6) (.t 6), none, [6]⟩,
    ⟨some 3, .asg (.t 7), none, []⟩])
  (.seq (.seq (.reg 2 none [⟨some 4, .asg (.k (.i .i64 0)), none, []⟩])
  (.blk 0 (.loop [0, 3, 4, 7] (.seq (.seq (.reg 3 none [⟨some 8, .mv (.t 4), none, []⟩,
    ⟨some 9, .mv (.t 0), none, []⟩,
    ⟨some 10, .len false (.t 9), none, [9]⟩,
    ⟨some 11, .bin .lss .o (.t 8) (.t 10), none, [8, 10]⟩])
  (.cond (.t 11) .sk (.exit 0)))
  (.seq (.blk 1 (.reg 5 none [⟨some 14, .mv (.t 3), none, [11]⟩,
    ⟨some 15, .mv (.t 4), none, []⟩,
    ⟨some 16, .mv (.t 0), none, []⟩,
    ⟨some 17, .mv (.t 4), none, []⟩,
    ⟨some 18, .ia 1 (.t 16) (.t 17), none, [16, 17]⟩,
    ⟨some 19, .ld (some 1) (.t 18), none, [18]⟩,
    ⟨some 20, .call g_laws_toRow F_laws_toRow [(.S, (.t 19))], none, [19]⟩,
    ⟨some 21, .ia 1 (.t 14) (.t 15), none, [14, 15]⟩,
    ⟨none, .sto 1 true (.t 21) (.t 20), none, [20, 21]⟩]))
  (.reg 4 none [⟨some 12, .mv (.t 4), none, [4]⟩,
    ⟨some 13, .bin .add .o (.t 12) (.k (.i .i64 1)), none, [12]⟩,
    ⟨some 4, .asg (.t 13), none, [13]⟩]))))))
  (.seq (.reg 6 none [⟨some 22, .mv (.t 3), none, [0, 4, 11]⟩,
    ⟨some 2, .asg (.t 22), none, [22]⟩])
  .ret))))
  res := [.tmp 2]
  ptrs := []
  ar := 1
noncomputable def F_laws_toRowS : Fun := lock (denF m_laws_toRowS)
def m_laws_toRowSS : MFun where
  code := (.seq (.reg 0 none [⟨some 2, .asg (.k (.l .y 1 [])), none, [2]⟩])
  (.seq (.reg 1 none [⟨some 5, .mv (.t 0), none, []⟩,
    ⟨some 6, .len false (.t 5), none, [5]⟩,
    ⟨some 7, .mks 1 false [.l .y 1 []] (.t 6) (.t 6), none, [6]⟩,
    ⟨some 3, .asg (.t 7), none, []⟩])
  (.seq (.seq (.reg 2 none [⟨some 4, .asg (.k (.i .i64 0)), none, []⟩])
  (.blk 0 (.loop [0, 3, 4, 7] (.seq (.seq (.reg 3 none [⟨some 8, .mv (.t 4), none, []⟩,
    ⟨some 9, .mv (.t 0), none, []⟩,
    ⟨some 10, .len false (.t 9), none, [9]⟩,
    ⟨some 11, .bin .lss .o (.t 8) (.t 10), none, [8, 10]⟩])
  (.cond (.t 11) .sk (.exit 0)))
  (.seq (.blk 1 (.reg 5 none [⟨some 14, .mv (.t 3), none, [11]⟩,
    ⟨some 15, .mv (.t 4), none, []⟩,
    ⟨some 16, .mv (.t 0), none, []⟩,
    ⟨some 17, .mv (.t 4), none, []⟩,
    ⟨some 18, .ia 1 (.t 16) (.t 17), none, [16, 17]⟩,
    ⟨some 19, .ld none (.t 18), none, [18]⟩,
    ⟨some 20, .call g_laws_toRowS F_laws_toRowS [(.S, (.t 19))], none, [19]⟩,
    ⟨some 21, .ia 1 (.t 14) (.t 15), none, [14, 15]⟩,
    ⟨none, .sto 1 true (.t 21) (.t 20), none, [20, 21]⟩]))
  (.reg 4 none [⟨some 12, .mv (.t 4), none, [4]⟩,
    ⟨some 13, .bin .add .o (.t 12) (.k (.i .i64 1)), none, [12]⟩,
    ⟨some 4, .asg (.t 13), none, [13]⟩]))))))
  (.seq (.reg 6 none [⟨some 22, .mv (.t 3), none, [0, 4, 11]⟩,
    ⟨some 2, .asg (.t 22), none, [22]⟩])
  .ret))))
  res := [.tmp 2]
  ptrs := []
  ar := 1
noncomputable def F_laws_toRowSS : Fun := lock (denF m_laws_toRowSS)
def m_laws_toSeat : MFun where
  code := (.seq (.reg 0 none [⟨some 1, .box true (.t 0), none, [0]⟩,
    ⟨some 2, .alloc [.i .i64 0, .i .i64 0, .l .y 2 [], .i .i64 0, .i .i64 0], none, []⟩])
  (.seq (.reg 1 none [⟨some 3, .alloc [.i .i64 0, .i .i64 0, .l .y 2 [], .i .i64 0, .i .i64 0], none, []⟩])
  (.seq (.reg 2 none [⟨some 4, .fa (.t 1) 0, none, []⟩,
    ⟨some 5, .ld none (.t 4), none, [4]⟩,
    ⟨some 6, .fa (.t 3) 0, none, []⟩,
    ⟨none, .sto 1 true (.t 6) (.t 5), none, [5, 6]⟩])
  (.seq (.reg 3 none [⟨some 7, .fa (.t 1) 1, none, []⟩,
    ⟨some 8, .ld none (.t 7), none, [7]⟩,
    ⟨some 9, .fa (.t 3) 1, none, []⟩,
    ⟨none, .sto 1 true (.t 9) (.t 8), none, [8, 9]⟩])
  (.seq (.reg 4 none [⟨some 10, .fa (.t 1) 2, none, []⟩,
    ⟨some 11, .ld none (.t 10), none, [10]⟩,
    ⟨some 12, .call g_laws_toSpanS F_laws_toSpanS [(.S, (.t 11))], none, [11]⟩,
    ⟨some 13, .fa (.t 3) 2, none, []⟩,
    ⟨none, .sto 1 true (.t 13) (.t 12), none, [12, 13]⟩])
  (.seq (.reg 5 none [⟨some 14, .fa (.t 1) 3, none, []⟩,
    ⟨some 15, .ld none (.t 14), none, [14]⟩,
    ⟨some 16, .fa (.t 3) 3, none, []⟩,
    ⟨none, .sto 1 true (.t 16) (.t 15), none, [15, 16]⟩])
  (.seq (.reg 6 none [⟨some 17, .fa (.t 1) 4, none, []⟩,
    ⟨some 18, .ld none (.t 17), none, [1, 17]⟩,
    ⟨some 19, .fa (.t 3) 4, none, []⟩,
    ⟨none, .sto 1 true (.t 19) (.t 18), none, [18, 19]⟩])
  (.seq (.reg 7 none [⟨some 20, .ld (some 5) (.t 3), none, []⟩,
    ⟨none, .sto 5 true (.t 2) (.t 20), none, [3, 20]⟩])
  .ret))))))))
  res := [.cell 2 (some 5)]
  ptrs := []
  ar := 1
noncomputable def F_laws_toSeat : Fun := lock (denF m_laws_toSeat)
def m_laws_toSeatS : MFun where
  code := (.seq (.reg 0 none [⟨some 2, .asg (.k (.l .y 5 [])), none, [2]⟩])
  (.seq (.reg 1 none [⟨some 5, .mv (.t 0), none, []⟩,
    ⟨some 6, .len false (.t 5), none, [5]⟩,
    ⟨some 7, .mks 5 true [.i .i64 0, .i .i64 0, .l .y 2 [], .i .i64 0, .i .i64 0] (.t 6) (.t 6), none, [6]⟩,
    ⟨some 3, .asg (.t 7), none, []⟩])
  (.seq (.seq (.reg 2 none [⟨some 4, .asg (.k (.i .i64 0)), none, []⟩])
  (.blk 0 (.loop [0, 3, 4, 7] (.seq (.seq (.reg 3 none [⟨some 8, .mv (.t 4), none, []⟩,
    ⟨some 9, .mv (.t 0), none, []⟩,
    ⟨some 10, .len false (.t 9), none, [9]⟩,
    ⟨some 11, .bin .lss .o (.t 8) (.t 10), none, [8, 10]⟩])
  (.cond (.t 11) .sk (.exit 0)))
  (.seq (.blk 1 (.reg 5 none [⟨some 14, .mv (.t 3), none, [11]⟩,
    ⟨some 15, .mv (.t 4), none, []⟩,
    ⟨some 16, .mv (.t 0), none, []⟩,
    ⟨some 17, .mv (.t 4), none, []⟩,
    ⟨some 18, .ia 5 (.t 16) (.t 17), none, [16, 17]⟩,
    ⟨some 19, .ld (some 5) (.t 18), none, [18]⟩,
    ⟨some 20, .call g_laws_toSeat F_laws_toSeat [(.S, (.t 19))], none, [19]⟩,
    ⟨some 21, .ia 5 (.t 14) (.t 15), none, [14, 15]⟩,
    ⟨none, .sto 5 true (.t 21) (.t 20), none, [20, 21]⟩]))
  (.reg 4 none [⟨some 12, .mv (.t 4), none, [4]⟩,
    ⟨some 13, .bin .add .o (.t 12) (.k (.i .i64 1)), none, [12]⟩,
    ⟨some 4, .asg (.t 13), none, [13]⟩]))))))
  (.seq (.reg 6 none [⟨some 22, .mv (.t 3), none, [0, 4, 11]⟩,
    ⟨some 2, .asg (.t 22), none, [22]⟩])
  .ret))))
  res := [.tmp 2]
  ptrs := []
  ar := 1
noncomputable def F_laws_toSeatS : Fun := lock (denF m_laws_toSeatS)
def m_laws_toTurn : MFun where
  code := (.seq (.reg 0 none [⟨some 1, .box true (.t 0), none, [0]⟩,
    ⟨some 2, .alloc [.i .i64 0, .b false, .l .y 1 []], none, []⟩])
  (.seq (.reg 1 none [⟨some 3, .alloc [.i .i64 0, .b false, .l .y 1 []], none, []⟩])
  (.seq (.reg 2 none [⟨some 4, .fa (.t 1) 0, none, []⟩,
    ⟨some 5, .ld none (.t 4), none, [4]⟩,
    ⟨some 6, .fa (.t 3) 0, none, []⟩,
    ⟨none, .sto 1 true (.t 6) (.t 5), none, [5, 6]⟩])
  (.seq (.reg 3 none [⟨some 7, .fa (.t 1) 1, none, []⟩,
    ⟨some 8, .ld none (.t 7), none, [7]⟩,
    ⟨some 9, .fa (.t 3) 1, none, []⟩,
    ⟨none, .sto 1 true (.t 9) (.t 8), none, [8, 9]⟩])
  (.seq (.reg 4 none [⟨some 10, .fa (.t 1) 2, none, []⟩,
    ⟨some 11, .ld none (.t 10), none, [10]⟩,
    ⟨some 12, .call g_laws_toIntS F_laws_toIntS [(.S, (.t 11))], none, [1, 11]⟩,
    ⟨some 13, .fa (.t 3) 2, none, []⟩,
    ⟨none, .sto 1 true (.t 13) (.t 12), none, [12, 13]⟩])
  (.seq (.reg 5 none [⟨some 14, .ld (some 3) (.t 3), none, []⟩,
    ⟨none, .sto 3 true (.t 2) (.t 14), none, [3, 14]⟩])
  .ret))))))
  res := [.cell 2 (some 3)]
  ptrs := []
  ar := 1
noncomputable def F_laws_toTurn : Fun := lock (denF m_laws_toTurn)
def m_laws_toTurnS : MFun where
  code := (.seq (.reg 0 none [⟨some 2, .asg (.k (.l .y 3 [])), none, [2]⟩])
  (.seq (.reg 1 none [⟨some 5, .mv (.t 0), none, []⟩,
    ⟨some 6, .len false (.t 5), none, [5]⟩,
    ⟨some 7, .mks 3 true [.i .i64 0, .b false, .l .y 1 []] (.t 6) (.t 6), none, [6]⟩,
    ⟨some 3, .asg (.t 7), none, []⟩])
  (.seq (.seq (.reg 2 none [⟨some 4, .asg (.k (.i .i64 0)), none, []⟩])
  (.blk 0 (.loop [0, 3, 4, 7] (.seq (.seq (.reg 3 none [⟨some 8, .mv (.t 4), none, []⟩,
    ⟨some 9, .mv (.t 0), none, []⟩,
    ⟨some 10, .len false (.t 9), none, [9]⟩,
    ⟨some 11, .bin .lss .o (.t 8) (.t 10), none, [8, 10]⟩])
  (.cond (.t 11) .sk (.exit 0)))
  (.seq (.blk 1 (.reg 5 none [⟨some 14, .mv (.t 3), none, [11]⟩,
    ⟨some 15, .mv (.t 4), none, []⟩,
    ⟨some 16, .mv (.t 0), none, []⟩,
    ⟨some 17, .mv (.t 4), none, []⟩,
    ⟨some 18, .ia 3 (.t 16) (.t 17), none, [16, 17]⟩,
    ⟨some 19, .ld (some 3) (.t 18), none, [18]⟩,
    ⟨some 20, .call g_laws_toTurn F_laws_toTurn [(.S, (.t 19))], none, [19]⟩,
    ⟨some 21, .ia 3 (.t 14) (.t 15), none, [14, 15]⟩,
    ⟨none, .sto 3 true (.t 21) (.t 20), none, [20, 21]⟩]))
  (.reg 4 none [⟨some 12, .mv (.t 4), none, [4]⟩,
    ⟨some 13, .bin .add .o (.t 12) (.k (.i .i64 1)), none, [12]⟩,
    ⟨some 4, .asg (.t 13), none, [13]⟩]))))))
  (.seq (.reg 6 none [⟨some 22, .mv (.t 3), none, [0, 4, 11]⟩,
    ⟨some 2, .asg (.t 22), none, [22]⟩])
  .ret))))
  res := [.tmp 2]
  ptrs := []
  ar := 1
noncomputable def F_laws_toTurnS : Fun := lock (denF m_laws_toTurnS)
def m_laws_toHouse : MFun where
  code := (.seq (.reg 0 none [⟨some 1, .box true (.t 0), none, [0]⟩,
    ⟨some 2, .alloc [.i .i64 0, .i .i64 0, .i .i64 0, .l .y 1 [], .i .i64 0, .i .i64 0, .i .i64 0, .i .i64 0, .i .i64 0, .b false, .l .y 5 [], .l .y 1 [], .l .y 3 [], .i .i64 0, .l .y 10 [], .l .y 11 []], none, []⟩])
  (.seq (.reg 1 none [⟨some 3, .alloc [.i .i64 0, .i .i64 0, .i .i64 0, .l .y 1 [], .i .i64 0, .i .i64 0, .i .i64 0, .i .i64 0, .i .i64 0, .b false, .l .y 5 [], .l .y 1 [], .l .y 3 [], .i .i64 0, .l .y 10 [], .l .y 11 []], none, []⟩])
  (.seq (.reg 2 none [⟨some 4, .fa (.t 1) 0, none, []⟩,
    ⟨some 5, .ld (some 8) (.t 4), none, [4]⟩,
    ⟨some 6, .call g_laws_toConf F_laws_toConf [(.S, (.t 5))], none, [5]⟩,
    ⟨some 7, .fa (.t 3) 0, none, []⟩,
    ⟨none, .sto 8 true (.t 7) (.t 6), none, [6, 7]⟩])
  (.seq (.reg 3 none [⟨some 8, .fa (.t 1) 8, none, []⟩,
    ⟨some 9, .ld none (.t 8), none, [8]⟩,
    ⟨some 10, .fa (.t 3) 8, none, []⟩,
    ⟨none, .sto 1 true (.t 10) (.t 9), none, [9, 10]⟩])
  (.seq (.reg 4 none [⟨some 11, .fa (.t 1) 9, none, []⟩,
    ⟨some 12, .ld none (.t 11), none, [11]⟩,
    ⟨some 13, .fa (.t 3) 9, none, []⟩,
    ⟨none, .sto 1 true (.t 13) (.t 12), none, [12, 13]⟩])
  (.seq (.reg 5 none [⟨some 14, .fa (.t 1) 10, none, []⟩,
    ⟨some 15, .ld none (.t 14), none, [14]⟩,
    ⟨some 16, .call g_laws_toSeatS F_laws_toSeatS [(.S, (.t 15))], none, [15]⟩,
    ⟨some 17, .fa (.t 3) 10, none, []⟩,
    ⟨none, .sto 1 true (.t 17) (.t 16), none, [16, 17]⟩])
  (.seq (.reg 6 none [⟨some 18, .fa (.t 1) 11, none, []⟩,
    ⟨some 19, .ld none (.t 18), none, [18]⟩,
    ⟨some 20, .call g_laws_toRowSS F_laws_toRowSS [(.S, (.t 19))], none, [19]⟩,
    ⟨some 21, .fa (.t 3) 11, none, []⟩,
    ⟨none, .sto 1 true (.t 21) (.t 20), none, [20, 21]⟩])
  (.seq (.reg 7 none [⟨some 22, .fa (.t 1) 12, none, []⟩,
    ⟨some 23, .ld none (.t 22), none, [22]⟩,
    ⟨some 24, .call g_laws_toTurnS F_laws_toTurnS [(.S, (.t 23))], none, [23]⟩,
    ⟨some 25, .fa (.t 3) 12, none, []⟩,
    ⟨none, .sto 1 true (.t 25) (.t 24), none, [24, 25]⟩])
  (.seq (.reg 8 none [⟨some 26, .fa (.t 1) 13, none, []⟩,
    ⟨some 27, .ld none (.t 26), none, [26]⟩,
    ⟨some 28, .fa (.t 3) 13, none, []⟩,
    ⟨none, .sto 1 true (.t 28) (.t 27), none, [27, 28]⟩])
  (.seq (.reg 9 none [⟨some 29, .fa (.t 1) 14, none, []⟩,
    ⟨some 30, .ld none (.t 29), none, [29]⟩,
    ⟨some 31, .call g_laws_toEntryS F_laws_toEntryS [(.S, (.t 30))], none, [30]⟩,
    ⟨some 32, .fa (.t 3) 14, none, []⟩,
    ⟨none, .sto 1 true (.t 32) (.t 31), none, [31, 32]⟩])
  (.seq (.reg 10 none [⟨some 33, .fa (.t 1) 15, none, []⟩,
    ⟨some 34, .ld none (.t 33), none, [33]⟩,
    ⟨some 35, .call g_laws_toOutS F_laws_toOutS [(.S, (.t 34))], none, [1, 34]⟩,
    ⟨some 36, .fa (.t 3) 15, none, []⟩,
    ⟨none, .sto 1 true (.t 36) (.t 35), none, [35, 36]⟩])
  (.seq (.reg 11 none [⟨some 37, .ld (some 16) (.t 3), none, []⟩,
    ⟨none, .sto 16 true (.t 2) (.t 37), none, [3, 37]⟩])
  .ret))))))))))))
  res := [.cell 2 (some 16)]
  ptrs := []
  ar := 1
noncomputable def F_laws_toHouse : Fun := lock (denF m_laws_toHouse)
def m_laws_toByteS : MFun where
  code := (.seq (.reg 0 none [⟨some 2, .asg (.k (.l .y 1 [])), none, [2]⟩])
  (.seq (.reg 1 none [⟨some 5, .mv (.t 0), none, []⟩,
    ⟨some 6, .len false (.t 5), none, [5]⟩,
    ⟨some 7, .mks 1 false [.i .u8 0] (.t 6) (.t 6), none, [6]⟩,
    ⟨some 3, .asg (.t 7), none, []⟩])
  (.seq (.seq (.reg 2 none [⟨some 4, .asg (.k (.i .i64 0)), none, []⟩])
  (.blk 0 (.loop [0, 3, 4, 7] (.seq (.seq (.reg 3 none [⟨some 8, .mv (.t 4), none, []⟩,
    ⟨some 9, .mv (.t 0), none, []⟩,
    ⟨some 10, .len false (.t 9), none, [9]⟩,
    ⟨some 11, .bin .lss .o (.t 8) (.t 10), none, [8, 10]⟩])
  (.cond (.t 11) .sk (.exit 0)))
  (.seq (.blk 1 (.reg 5 none [⟨some 14, .mv (.t 3), none, [11]⟩,
    ⟨some 15, .mv (.t 4), none, []⟩,
    ⟨some 16, .mv (.t 0), none, []⟩,
    ⟨some 17, .mv (.t 4), none, []⟩,
    ⟨some 18, .ia 1 (.t 16) (.t 17), none, [16, 17]⟩,
    ⟨some 19, .ld none (.t 18), none, [18]⟩,
    ⟨some 20, .ia 1 (.t 14) (.t 15), none, [14, 15]⟩,
    ⟨none, .sto 1 true (.t 20) (.t 19), none, [19, 20]⟩]))
  (.reg 4 none [⟨some 12, .mv (.t 4), none, [4]⟩,
    ⟨some 13, .bin .add .o (.t 12) (.k (.i .i64 1)), none, [12]⟩,
    ⟨some 4, .asg (.t 13), none, [13]⟩]))))))
  (.seq (.reg 6 none [⟨some 21, .mv (.t 3), none, [0, 4, 11]⟩,
    ⟨some 2, .asg (.t 21), none, [21]⟩])
  .ret))))
  res := [.tmp 2]
  ptrs := []
  ar := 1
noncomputable def F_laws_toByteS : Fun := lock (denF m_laws_toByteS)
def m_laws_toPack : MFun where
  code := (.seq (.reg 0 none [⟨some 1, .box true (.t 0), none, [0]⟩,
    ⟨some 2, .alloc [.i .i64 0, .l .y 1 [], .b false], none, []⟩])
  (.seq (.reg 1 none [⟨some 3, .alloc [.i .i64 0, .l .y 1 [], .b false], none, []⟩])
  (.seq (.reg 2 none [⟨some 4, .fa (.t 1) 0, none, []⟩,
    ⟨some 5, .ld none (.t 4), none, [4]⟩,
    ⟨some 6, .fa (.t 3) 0, none, []⟩,
    ⟨none, .sto 1 true (.t 6) (.t 5), none, [5, 6]⟩])
  (.seq (.reg 3 none [⟨some 7, .fa (.t 1) 1, none, []⟩,
    ⟨some 8, .ld none (.t 7), none, [7]⟩,
    ⟨some 9, .call g_laws_toByteS F_laws_toByteS [(.S, (.t 8))], none, [8]⟩,
    ⟨some 10, .fa (.t 3) 1, none, []⟩,
    ⟨none, .sto 1 true (.t 10) (.t 9), none, [9, 10]⟩])
  (.seq (.reg 4 none [⟨some 11, .fa (.t 1) 2, none, []⟩,
    ⟨some 12, .ld none (.t 11), none, [1, 11]⟩,
    ⟨some 13, .fa (.t 3) 2, none, []⟩,
    ⟨none, .sto 1 true (.t 13) (.t 12), none, [12, 13]⟩])
  (.seq (.reg 5 none [⟨some 14, .ld (some 3) (.t 3), none, []⟩,
    ⟨none, .sto 3 true (.t 2) (.t 14), none, [3, 14]⟩])
  .ret))))))
  res := [.cell 2 (some 3)]
  ptrs := []
  ar := 1
noncomputable def F_laws_toPack : Fun := lock (denF m_laws_toPack)
def m_laws_toPackS : MFun where
  code := (.seq (.reg 0 none [⟨some 2, .asg (.k (.l .y 3 [])), none, [2]⟩])
  (.seq (.reg 1 none [⟨some 5, .mv (.t 0), none, []⟩,
    ⟨some 6, .len false (.t 5), none, [5]⟩,
    ⟨some 7, .mks 3 true [.i .i64 0, .l .y 1 [], .b false] (.t 6) (.t 6), none, [6]⟩,
    ⟨some 3, .asg (.t 7), none, []⟩])
  (.seq (.seq (.reg 2 none [⟨some 4, .asg (.k (.i .i64 0)), none, []⟩])
  (.blk 0 (.loop [0, 3, 4, 7] (.seq (.seq (.reg 3 none [⟨some 8, .mv (.t 4), none, []⟩,
    ⟨some 9, .mv (.t 0), none, []⟩,
    ⟨some 10, .len false (.t 9), none, [9]⟩,
    ⟨some 11, .bin .lss .o (.t 8) (.t 10), none, [8, 10]⟩])
  (.cond (.t 11) .sk (.exit 0)))
  (.seq (.blk 1 (.reg 5 none [⟨some 14, .mv (.t 3), none, [11]⟩,
    ⟨some 15, .mv (.t 4), none, []⟩,
    ⟨some 16, .mv (.t 0), none, []⟩,
    ⟨some 17, .mv (.t 4), none, []⟩,
    ⟨some 18, .ia 3 (.t 16) (.t 17), none, [16, 17]⟩,
    ⟨some 19, .ld (some 3) (.t 18), none, [18]⟩,
    ⟨some 20, .call g_laws_toPack F_laws_toPack [(.S, (.t 19))], none, [19]⟩,
    ⟨some 21, .ia 3 (.t 14) (.t 15), none, [14, 15]⟩,
    ⟨none, .sto 3 true (.t 21) (.t 20), none, [20, 21]⟩]))
  (.reg 4 none [⟨some 12, .mv (.t 4), none, [4]⟩,
    ⟨some 13, .bin .add .o (.t 12) (.k (.i .i64 1)), none, [12]⟩,
    ⟨some 4, .asg (.t 13), none, [13]⟩]))))))
  (.seq (.reg 6 none [⟨some 22, .mv (.t 3), none, [0, 4, 11]⟩,
    ⟨some 2, .asg (.t 22), none, [22]⟩])
  .ret))))
  res := [.tmp 2]
  ptrs := []
  ar := 1
noncomputable def F_laws_toPackS : Fun := lock (denF m_laws_toPackS)
def m_laws_toWorld : MFun where
  code := (.seq (.reg 0 none [⟨some 1, .box true (.t 0), none, [0]⟩,
    ⟨some 2, .alloc [.l .y 7 [], .i .i64 0, .i .i64 0, .i .i64 0, .l .y 1 [], .i .i64 0, .i .i64 0, .i .i64 0, .i .i64 0, .i .i64 0, .b false, .l .y 5 [], .l .y 1 [], .l .y 3 [], .i .i64 0, .l .y 10 [], .l .y 11 [], .l .y 3 []], none, []⟩])
  (.seq (.reg 1 none [⟨some 3, .alloc [.l .y 7 [], .i .i64 0, .i .i64 0, .i .i64 0, .l .y 1 [], .i .i64 0, .i .i64 0, .i .i64 0, .i .i64 0, .i .i64 0, .b false, .l .y 5 [], .l .y 1 [], .l .y 3 [], .i .i64 0, .l .y 10 [], .l .y 11 [], .l .y 3 []], none, []⟩])
  (.seq (.reg 2 none [⟨some 4, .fa (.t 1) 0, none, []⟩,
    ⟨some 5, .ld none (.t 4), none, [4]⟩,
    ⟨some 6, .call g_laws_toAgentS F_laws_toAgentS [(.S, (.t 5))], none, [5]⟩,
    ⟨some 7, .fa (.t 3) 0, none, []⟩,
    ⟨none, .sto 1 true (.t 7) (.t 6), none, [6, 7]⟩])
  (.seq (.reg 3 none [⟨some 8, .fa (.t 1) 1, none, []⟩,
    ⟨some 9, .ld (some 16) (.t 8), none, [8]⟩,
    ⟨some 10, .call g_laws_toHouse F_laws_toHouse [(.S, (.t 9))], none, [9]⟩,
    ⟨some 11, .fa (.t 3) 1, none, []⟩,
    ⟨none, .sto 16 true (.t 11) (.t 10), none, [10, 11]⟩])
  (.seq (.reg 4 none [⟨some 12, .fa (.t 1) 17, none, []⟩,
    ⟨some 13, .ld none (.t 12), none, [12]⟩,
    ⟨some 14, .call g_laws_toPackS F_laws_toPackS [(.S, (.t 13))], none, [1, 13]⟩,
    ⟨some 15, .fa (.t 3) 17, none, []⟩,
    ⟨none, .sto 1 true (.t 15) (.t 14), none, [14, 15]⟩])
  (.seq (.reg 5 none [⟨some 16, .ld (some 18) (.t 3), none, []⟩,
    ⟨none, .sto 18 true (.t 2) (.t 16), none, [3, 16]⟩])
  .ret))))))
  res := [.cell 2 (some 18)]
  ptrs := []
  ar := 1
noncomputable def F_laws_toWorld : Fun := lock (denF m_laws_toWorld)
def m_spec_l1Same : MFun where
  code := (.seq (.reg 0 none [⟨some 4, .asg (.k (.b false)), none, [4]⟩])
  (.seq (.seq (.reg 1 none [⟨some 6, .mv (.t 0), none, []⟩,
    ⟨some 7, .len false (.t 6), none, [6]⟩,
    ⟨some 8, .mv (.t 1), none, []⟩,
    ⟨some 9, .len false (.t 8), none, [8]⟩,
    ⟨some 10, .bin .neq .o (.t 7) (.t 9), none, [7, 9]⟩])
  (.cond (.t 10) (.seq (.reg 2 none [⟨some 4, .asg (.k (.b false)), none, [0, 1, 10]⟩])
  .ret) .sk))
  (.seq (.seq (.reg 3 none [⟨some 5, .asg (.k (.i .i64 0)), none, [10]⟩])
  (.blk 0 (.loop [0, 1, 5] (.seq (.seq (.reg 4 none [⟨some 11, .mv (.t 5), none, []⟩,
    ⟨some 12, .mv (.t 0), none, []⟩,
    ⟨some 13, .len false (.t 12), none, [12]⟩,
    ⟨some 14, .bin .lss .o (.t 11) (.t 13), none, [11, 13]⟩])
  (.cond (.t 14) .sk (.exit 0)))
  (.seq (.blk 1 (.seq (.reg 6 (some [([0, 14, 17], [14, 17]), ([5, 18], [18]), ([17, 18, 19], [17, 18, 19]), ([19, 20], [19, 20]), ([1, 21], [21]), ([5, 22], [22]), ([21, 22, 23], [21, 22, 23]), ([23, 24], [23, 24]), ([20, 24, 25], [20, 24, 25])]) [⟨some 17, .mv (.t 0), none, [14]⟩,
    ⟨some 18, .mv (.t 5), none, []⟩,
    ⟨some 19, .ia 1 (.t 17) (.t 18), none, [17, 18]⟩,
    ⟨some 20, .ld none (.t 19), none, [19]⟩,
    ⟨some 21, .mv (.t 1), none, []⟩,
    ⟨some 22, .mv (.t 5), none, []⟩,
    ⟨some 23, .ia 1 (.t 21) (.t 22), none, [21, 22]⟩,
    ⟨some 24, .ld none (.t 23), none, [23]⟩,
    ⟨some 25, .bin .neq .o (.t 20) (.t 24), none, [20, 24]⟩])
  (.cond (.t 25) (.seq (.reg 7 none [⟨some 4, .asg (.k (.b false)), none, [0, 1, 5, 25]⟩])
  .ret) .sk)))
  (.reg 5 none [⟨some 15, .mv (.t 5), none, [5, 25]⟩,
    ⟨some 16, .bin .add .o (.t 15) (.k (.i .i64 1)), none, [15]⟩,
    ⟨some 5, .asg (.t 16), none, [16]⟩]))))))
  (.seq (.reg 8 none [⟨some 4, .asg (.k (.b true)), none, [0, 1, 5, 14]⟩])
  .ret))))
  res := [.tmp 4]
  ptrs := []
  ar := 2
noncomputable def F_spec_l1Same : Fun := lock (denF m_spec_l1Same)
def m_spec_SketchSame : MFun where
  code := (.seq (.reg 0 none [⟨some 2, .box true (.t 0), none, [0]⟩,
    ⟨some 3, .box true (.t 1), none, [1]⟩,
    ⟨some 4, .asg (.k (.b false)), none, [4]⟩])
  (.seq (.seq (.reg 1 none [⟨some 6, .fa (.t 2) 0, none, []⟩,
    ⟨some 7, .ld none (.t 6), none, [6]⟩,
    ⟨some 8, .fa (.t 3) 0, none, []⟩,
    ⟨some 9, .ld none (.t 8), none, [8]⟩,
    ⟨some 10, .bin .neq .o (.t 7) (.t 9), none, [7, 9]⟩,
    ⟨some 11, .mv (.t 10), none, [10]⟩,
    ⟨some 12, .fa (.t 2) 1, some (11, false), []⟩,
    ⟨some 13, .ld none (.t 12), some (11, false), [12]⟩,
    ⟨some 14, .fa (.t 3) 1, some (11, false), []⟩,
    ⟨some 15, .ld none (.t 14), some (11, false), [14]⟩,
    ⟨some 16, .bin .neq .o (.t 13) (.t 15), some (11, false), [13, 15]⟩,
    ⟨some 17, .pick (.t 11) (.k (.b true)) (.t 16), none, [11, 16]⟩,
    ⟨some 18, .mv (.t 17), none, [17]⟩,
    ⟨some 19, .fa (.t 2) 2, some (18, false), []⟩,
    ⟨some 20, .ld none (.t 19), some (18, false), [19]⟩,
    ⟨some 21, .fa (.t 3) 2, some (18, false), []⟩,
    ⟨some 22, .ld none (.t 21), some (18, false), [21]⟩,
    ⟨some 23, .bin .neq .o (.t 20) (.t 22), some (18, false), [20, 22]⟩,
    ⟨some 24, .pick (.t 18) (.k (.b true)) (.t 23), none, [18, 23]⟩,
    ⟨some 25, .mv (.t 24), none, [24]⟩,
    ⟨some 26, .fa (.t 2) 3, some (25, false), []⟩,
    ⟨some 27, .ld none (.t 26), some (25, false), [26]⟩,
    ⟨some 28, .fa (.t 3) 3, some (25, false), []⟩,
    ⟨some 29, .ld none (.t 28), some (25, false), [28]⟩,
    ⟨some 30, .bin .neq .o (.t 27) (.t 29), some (25, false), [27, 29]⟩,
    ⟨some 31, .pick (.t 25) (.k (.b true)) (.t 30), none, [25, 30]⟩,
    ⟨some 32, .mv (.t 31), none, [31]⟩,
    ⟨some 33, .fa (.t 2) 4, some (32, false), []⟩,
    ⟨some 34, .ld none (.t 33), some (32, false), [33]⟩,
    ⟨some 35, .fa (.t 3) 4, some (32, false), []⟩,
    ⟨some 36, .ld none (.t 35), some (32, false), [35]⟩,
    ⟨some 37, .call g_spec_l1Same F_spec_l1Same [(.S, (.t 34)), (.S, (.t 36))], some (32, false), [34, 36]⟩,
    ⟨some 38, .un .not (.t 37), some (32, false), [37]⟩,
    ⟨some 39, .pick (.t 32) (.k (.b true)) (.t 38), none, [32, 38]⟩,
    ⟨some 40, .mv (.t 39), none, [39]⟩,
    ⟨some 41, .fa (.t 2) 5, some (40, false), []⟩,
    ⟨some 42, .ld none (.t 41), some (40, false), [41]⟩,
    ⟨some 43, .fa (.t 3) 5, some (40, false), []⟩,
    ⟨some 44, .ld none (.t 43), some (40, false), [43]⟩,
    ⟨some 45, .call g_spec_l1Same F_spec_l1Same [(.S, (.t 42)), (.S, (.t 44))], some (40, false), [42, 44]⟩,
    ⟨some 46, .un .not (.t 45), some (40, false), [45]⟩,
    ⟨some 47, .pick (.t 40) (.k (.b true)) (.t 46), none, [40, 46]⟩,
    ⟨some 48, .mv (.t 47), none, [47]⟩,
    ⟨some 49, .fa (.t 2) 6, some (48, false), []⟩,
    ⟨some 50, .ld none (.t 49), some (48, false), [49]⟩,
    ⟨some 51, .len false (.t 50), some (48, false), [50]⟩,
    ⟨some 52, .fa (.t 3) 6, some (48, false), []⟩,
    ⟨some 53, .ld none (.t 52), some (48, false), [52]⟩,
    ⟨some 54, .len false (.t 53), some (48, false), [53]⟩,
    ⟨some 55, .bin .neq .o (.t 51) (.t 54), some (48, false), [51, 54]⟩,
    ⟨some 56, .pick (.t 48) (.k (.b true)) (.t 55), none, [48, 55]⟩])
  (.cond (.t 56) (.seq (.reg 2 none [⟨some 4, .asg (.k (.b false)), none, [2, 3, 56]⟩])
  .ret) .sk))
  (.seq (.seq (.reg 3 none [⟨some 5, .asg (.k (.i .i64 0)), none, [56]⟩])
  (.blk 0 (.loop [2, 3, 5] (.seq (.seq (.reg 4 none [⟨some 57, .mv (.t 5), none, []⟩,
    ⟨some 58, .fa (.t 2) 6, none, []⟩,
    ⟨some 59, .ld none (.t 58), none, [58]⟩,
    ⟨some 60, .len false (.t 59), none, [59]⟩,
    ⟨some 61, .bin .lss .o (.t 57) (.t 60), none, [57, 60]⟩])
  (.cond (.t 61) .sk (.exit 0)))
  (.seq (.blk 1 (.seq (.reg 6 (some [([2, 61, 64], [61, 64]), ([2, 64, 65], [64, 65]), ([5, 66], [66]), ([2, 65, 66, 67], [65, 66, 67]), ([2, 67, 68], [67, 68]), ([3, 69], [69]), ([3, 69, 70], [69, 70]), ([5, 71], [71]), ([3, 70, 71, 72], [70, 71, 72]), ([3, 72, 73], [72, 73]), ([2, 3, 68, 73, 74], [68, 73, 74]), ([74, 75], [74, 75])]) [⟨some 64, .fa (.t 2) 6, none, [61]⟩,
    ⟨some 65, .ld none (.t 64), none, [64]⟩,
    ⟨some 66, .mv (.t 5), none, []⟩,
    ⟨some 67, .ia 1 (.t 65) (.t 66), none, [65, 66]⟩,
    ⟨some 68, .ld none (.t 67), none, [67]⟩,
    ⟨some 69, .fa (.t 3) 6, none, []⟩,
    ⟨some 70, .ld none (.t 69), none, [69]⟩,
    ⟨some 71, .mv (.t 5), none, []⟩,
    ⟨some 72, .ia 1 (.t 70) (.t 71), none, [70, 71]⟩,
    ⟨some 73, .ld none (.t 72), none, [72]⟩,
    ⟨some 74, .call g_spec_l1Same F_spec_l1Same [(.S, (.t 68)), (.S, (.t 73))], none, [68, 73]⟩,
    ⟨some 75, .un .not (.t 74), none, [74]⟩])
  (.cond (.t 75) (.seq (.reg 7 none [⟨some 4, .asg (.k (.b false)), none, [2, 3, 5, 75]⟩])
  .ret) .sk)))
  (.reg 5 none [⟨some 62, .mv (.t 5), none, [5, 75]⟩,
    ⟨some 63, .bin .add .o (.t 62) (.k (.i .i64 1)), none, [62]⟩,
    ⟨some 5, .asg (.t 63), none, [63]⟩]))))))
  (.seq (.reg 8 none [⟨some 4, .asg (.k (.b true)), none, [2, 3, 5, 61]⟩])
  .ret))))
  res := [.tmp 4]
  ptrs := []
  ar := 2
noncomputable def F_spec_SketchSame : Fun := lock (denF m_spec_SketchSame)
def m_spec_l5Same : MFun where
  code := (.seq (.reg 0 none [⟨some 4, .asg (.k (.b false)), none, [4]⟩])
  (.seq (.seq (.reg 1 none [⟨some 6, .mv (.t 0), none, []⟩,
    ⟨some 7, .len false (.t 6), none, [6]⟩,
    ⟨some 8, .mv (.t 1), none, []⟩,
    ⟨some 9, .len false (.t 8), none, [8]⟩,
    ⟨some 10, .bin .neq .o (.t 7) (.t 9), none, [7, 9]⟩])
  (.cond (.t 10) (.seq (.reg 2 none [⟨some 4, .asg (.k (.b false)), none, [0, 1, 10]⟩])
  .ret) .sk))
  (.seq (.seq (.reg 3 none [⟨some 5, .asg (.k (.i .i64 0)), none, [10]⟩])
  (.blk 0 (.loop [0, 1, 5] (.seq (.seq (.reg 4 none [⟨some 11, .mv (.t 5), none, []⟩,
    ⟨some 12, .mv (.t 0), none, []⟩,
    ⟨some 13, .len false (.t 12), none, [12]⟩,
    ⟨some 14, .bin .lss .o (.t 11) (.t 13), none, [11, 13]⟩])
  (.cond (.t 14) .sk (.exit 0)))
  (.seq (.blk 1 (.seq (.reg 6 (some [([0, 14, 17], [14, 17]), ([5, 18], [18]), ([17, 18, 19], [17, 18, 19]), ([19, 20], [19, 20]), ([1, 21], [21]), ([5, 22], [22]), ([21, 22, 23], [21, 22, 23]), ([23, 24], [23, 24]), ([20, 24, 25], [20, 24, 25])]) [⟨some 17, .mv (.t 0), none, [14]⟩,
    ⟨some 18, .mv (.t 5), none, []⟩,
    ⟨some 19, .ia 2 (.t 17) (.t 18), none, [17, 18]⟩,
    ⟨some 20, .ld (some 2) (.t 19), none, [19]⟩,
    ⟨some 21, .mv (.t 1), none, []⟩,
    ⟨some 22, .mv (.t 5), none, []⟩,
    ⟨some 23, .ia 2 (.t 21) (.t 22), none, [21, 22]⟩,
    ⟨some 24, .ld (some 2) (.t 23), none, [23]⟩,
    ⟨some 25, .bin .neq .p (.t 20) (.t 24), none, [20, 24]⟩])
  (.cond (.t 25) (.seq (.reg 7 none [⟨some 4, .asg (.k (.b false)), none, [0, 1, 5, 25]⟩])
  .ret) .sk)))
  (.reg 5 none [⟨some 15, .mv (.t 5), none, [5, 25]⟩,
    ⟨some 16, .bin .add .o (.t 15) (.k (.i .i64 1)), none, [15]⟩,
    ⟨some 5, .asg (.t 16), none, [16]⟩]))))))
  (.seq (.reg 8 none [⟨some 4, .asg (.k (.b true)), none, [0, 1, 5, 14]⟩])
  .ret))))
  res := [.tmp 4]
  ptrs := []
  ar := 2
noncomputable def F_spec_l5Same : Fun := lock (denF m_spec_l5Same)
def m_spec_EntrySame : MFun where
  code := (.seq (.reg 0 none [⟨some 2, .box true (.t 0), none, [0]⟩,
    ⟨some 3, .box true (.t 1), none, [1]⟩,
    ⟨some 4, .asg (.k (.b false)), none, [4]⟩])
  (.seq (.reg 1 none [⟨some 5, .fa (.t 2) 0, none, []⟩,
    ⟨some 6, .ld none (.t 5), none, [5]⟩,
    ⟨some 7, .fa (.t 3) 0, none, []⟩,
    ⟨some 8, .ld none (.t 7), none, [7]⟩,
    ⟨some 9, .bin .eql .o (.t 6) (.t 8), none, [6, 8]⟩,
    ⟨some 10, .mv (.t 9), none, [9]⟩,
    ⟨some 11, .fa (.t 2) 1, some (10, true), []⟩,
    ⟨some 12, .ld none (.t 11), some (10, true), [11]⟩,
    ⟨some 13, .fa (.t 3) 1, some (10, true), []⟩,
    ⟨some 14, .ld none (.t 13), some (10, true), [13]⟩,
    ⟨some 15, .bin .eql .o (.t 12) (.t 14), some (10, true), [12, 14]⟩,
    ⟨some 16, .pick (.t 10) (.t 15) (.k (.b false)), none, [10, 15]⟩,
    ⟨some 17, .mv (.t 16), none, [16]⟩,
    ⟨some 18, .fa (.t 2) 2, some (17, true), []⟩,
    ⟨some 19, .ld none (.t 18), some (17, true), [18]⟩,
    ⟨some 20, .fa (.t 3) 2, some (17, true), []⟩,
    ⟨some 21, .ld none (.t 20), some (17, true), [20]⟩,
    ⟨some 22, .call g_spec_l5Same F_spec_l5Same [(.S, (.t 19)), (.S, (.t 21))], some (17, true), [19, 21]⟩,
    ⟨some 23, .pick (.t 17) (.t 22) (.k (.b false)), none, [17, 22]⟩,
    ⟨some 24, .mv (.t 23), none, [23]⟩,
    ⟨some 25, .fa (.t 2) 3, some (24, true), []⟩,
    ⟨some 26, .ld (some 7) (.t 25), some (24, true), [25]⟩,
    ⟨some 27, .fa (.t 3) 3, some (24, true), []⟩,
    ⟨some 28, .ld (some 7) (.t 27), some (24, true), [27]⟩,
    ⟨some 29, .call g_spec_SketchSame F_spec_SketchSame [(.S, (.t 26)), (.S, (.t 28))], some (24, true), [2, 3, 26, 28]⟩,
    ⟨some 30, .pick (.t 24) (.t 29) (.k (.b false)), none, [24, 29]⟩,
    ⟨some 4, .asg (.t 30), none, [30]⟩])
  .ret))
  res := [.tmp 4]
  ptrs := []
  ar := 2
noncomputable def F_spec_EntrySame : Fun := lock (denF m_spec_EntrySame)
def m_spec_l10Entries : MFun where
  code := (.seq (.reg 0 none [⟨some 4, .asg (.k (.b false)), none, [4]⟩])
  (.seq (.seq (.reg 1 none [⟨some 6, .mv (.t 0), none, []⟩,
    ⟨some 7, .len false (.t 6), none, [6]⟩,
    ⟨some 8, .mv (.t 1), none, []⟩,
    ⟨some 9, .len false (.t 8), none, [8]⟩,
    ⟨some 10, .bin .neq .o (.t 7) (.t 9), none, [7, 9]⟩])
  (.cond (.t 10) (.seq (.reg 2 none [⟨some 4, .asg (.k (.b false)), none, [0, 1, 10]⟩])
  .ret) .sk))
  (.seq (.seq (.reg 3 none [⟨some 5, .asg (.k (.i .i64 0)), none, [10]⟩])
  (.blk 0 (.loop [0, 1, 5] (.seq (.seq (.reg 4 none [⟨some 11, .mv (.t 5), none, []⟩,
    ⟨some 12, .mv (.t 0), none, []⟩,
    ⟨some 13, .len false (.t 12), none, [12]⟩,
    ⟨some 14, .bin .lss .o (.t 11) (.t 13), none, [11, 13]⟩])
  (.cond (.t 14) .sk (.exit 0)))
  (.seq (.blk 1 (.seq (.reg 6 (some [([0, 14, 17], [14, 17]), ([5, 18], [18]), ([17, 18, 19], [17, 18, 19]), ([19, 20], [19, 20]), ([1, 21], [21]), ([5, 22], [22]), ([21, 22, 23], [21, 22, 23]), ([23, 24], [23, 24]), ([20, 24, 25], [20, 24, 25]), ([25, 26], [25, 26])]) [⟨some 17, .mv (.t 0), none, [14]⟩,
    ⟨some 18, .mv (.t 5), none, []⟩,
    ⟨some 19, .ia 10 (.t 17) (.t 18), none, [17, 18]⟩,
    ⟨some 20, .ld (some 10) (.t 19), none, [19]⟩,
    ⟨some 21, .mv (.t 1), none, []⟩,
    ⟨some 22, .mv (.t 5), none, []⟩,
    ⟨some 23, .ia 10 (.t 21) (.t 22), none, [21, 22]⟩,
    ⟨some 24, .ld (some 10) (.t 23), none, [23]⟩,
    ⟨some 25, .call g_spec_EntrySame F_spec_EntrySame [(.S, (.t 20)), (.S, (.t 24))], none, [20, 24]⟩,
    ⟨some 26, .un .not (.t 25), none, [25]⟩])
  (.cond (.t 26) (.seq (.reg 7 none [⟨some 4, .asg (.k (.b false)), none, [0, 1, 5, 26]⟩])
  .ret) .sk)))
  (.reg 5 none [⟨some 15, .mv (.t 5), none, [5, 26]⟩,
    ⟨some 16, .bin .add .o (.t 15) (.k (.i .i64 1)), none, [15]⟩,
    ⟨some 5, .asg (.t 16), none, [16]⟩]))))))
  (.seq (.reg 8 none [⟨some 4, .asg (.k (.b true)), none, [0, 1, 5, 14]⟩])
  .ret))))
  res := [.tmp 4]
  ptrs := []
  ar := 2
noncomputable def F_spec_l10Entries : Fun := lock (denF m_spec_l10Entries)
def m_spec_l12Confs : MFun where
  code := (.seq (.reg 0 none [⟨some 2, .box true (.t 0), none, [0]⟩,
    ⟨some 3, .box true (.t 1), none, [1]⟩,
    ⟨some 4, .asg (.k (.b false)), none, [4]⟩])
  (.seq (.reg 1 none [⟨some 5, .fa (.t 2) 0, none, []⟩,
    ⟨some 6, .ld none (.t 5), none, [5]⟩,
    ⟨some 7, .fa (.t 3) 0, none, []⟩,
    ⟨some 8, .ld none (.t 7), none, [7]⟩,
    ⟨some 9, .bin .eql .o (.t 6) (.t 8), none, [6, 8]⟩,
    ⟨some 10, .mv (.t 9), none, [9]⟩,
    ⟨some 11, .fa (.t 2) 1, some (10, true), []⟩,
    ⟨some 12, .ld none (.t 11), some (10, true), [11]⟩,
    ⟨some 13, .fa (.t 3) 1, some (10, true), []⟩,
    ⟨some 14, .ld none (.t 13), some (10, true), [13]⟩,
    ⟨some 15, .bin .eql .o (.t 12) (.t 14), some (10, true), [12, 14]⟩,
    ⟨some 16, .pick (.t 10) (.t 15) (.k (.b false)), none, [10, 15]⟩,
    ⟨some 17, .mv (.t 16), none, [16]⟩,
    ⟨some 18, .fa (.t 2) 2, some (17, true), []⟩,
    ⟨some 19, .ld none (.t 18), some (17, true), [18]⟩,
    ⟨some 20, .fa (.t 3) 2, some (17, true), []⟩,
    ⟨some 21, .ld none (.t 20), some (17, true), [20]⟩,
    ⟨some 22, .bin .eql .o (.t 19) (.t 21), some (17, true), [19, 21]⟩,
    ⟨some 23, .pick (.t 17) (.t 22) (.k (.b false)), none, [17, 22]⟩,
    ⟨some 24, .mv (.t 23), none, [23]⟩,
    ⟨some 25, .fa (.t 2) 3, some (24, true), []⟩,
    ⟨some 26, .ld none (.t 25), some (24, true), [25]⟩,
    ⟨some 27, .fa (.t 3) 3, some (24, true), []⟩,
    ⟨some 28, .ld none (.t 27), some (24, true), [27]⟩,
    ⟨some 29, .call g_spec_l1Same F_spec_l1Same [(.S, (.t 26)), (.S, (.t 28))], some (24, true), [26, 28]⟩,
    ⟨some 30, .pick (.t 24) (.t 29) (.k (.b false)), none, [24, 29]⟩,
    ⟨some 31, .mv (.t 30), none, [30]⟩,
    ⟨some 32, .fa (.t 2) 4, some (31, true), []⟩,
    ⟨some 33, .ld none (.t 32), some (31, true), [32]⟩,
    ⟨some 34, .fa (.t 3) 4, some (31, true), []⟩,
    ⟨some 35, .ld none (.t 34), some (31, true), [34]⟩,
    ⟨some 36, .bin .eql .o (.t 33) (.t 35), some (31, true), [33, 35]⟩,
    ⟨some 37, .pick (.t 31) (.t 36) (.k (.b false)), none, [31, 36]⟩,
    ⟨some 38, .mv (.t 37), none, [37]⟩,
    ⟨some 39, .fa (.t 2) 5, some (38, true), []⟩,
    ⟨some 40, .ld none (.t 39), some (38, true), [39]⟩,
    ⟨some 41, .fa (.t 3) 5, some (38, true), []⟩,
    ⟨some 42, .ld none (.t 41), some (38, true), [41]⟩,
    ⟨some 43, .bin .eql .o (.t 40) (.t 42), some (38, true), [40, 42]⟩,
    ⟨some 44, .pick (.t 38) (.t 43) (.k (.b false)), none, [38, 43]⟩,
    ⟨some 45, .mv (.t 44), none, [44]⟩,
    ⟨some 46, .fa (.t 2) 6, some (45, true), []⟩,
    ⟨some 47, .ld none (.t 46), some (45, true), [46]⟩,
    ⟨some 48, .fa (.t 3) 6, some (45, true), []⟩,
    ⟨some 49, .ld none (.t 48), some (45, true), [48]⟩,
    ⟨some 50, .bin .eql .o (.t 47) (.t 49), some (45, true), [47, 49]⟩,
    ⟨some 51, .pick (.t 45) (.t 50) (.k (.b false)), none, [45, 50]⟩,
    ⟨some 52, .mv (.t 51), none, [51]⟩,
    ⟨some 53, .fa (.t 2) 7, some (52, true), []⟩,
    ⟨some 54, .ld none (.t 53), some (52, true), [2, 53]⟩,
    ⟨some 55, .fa (.t 3) 7, some (52, true), []⟩,
    ⟨some 56, .ld none (.t 55), some (52, true), [3, 55]⟩,
    ⟨some 57, .bin .eql .o (.t 54) (.t 56), some (52, true), [54, 56]⟩,
    ⟨some 58, .pick (.t 52) (.t 57) (.k (.b false)), none, [52, 57]⟩,
    ⟨some 4, .asg (.t 58), none, [58]⟩])
  .ret))
  res := [.tmp 4]
  ptrs := []
  ar := 2
noncomputable def F_spec_l12Confs : Fun := lock (denF m_spec_l12Confs)
def m_spec_RowSame : MFun where
  code := (.seq (.reg 0 none [⟨some 2, .box true (.t 0), none, [0]⟩,
    ⟨some 3, .box true (.t 1), none, [1]⟩,
    ⟨some 4, .asg (.k (.b false)), none, [4]⟩])
  (.seq (.reg 1 none [⟨some 5, .fa (.t 2) 0, none, []⟩,
    ⟨some 6, .ld none (.t 5), none, [5]⟩,
    ⟨some 7, .fa (.t 3) 0, none, []⟩,
    ⟨some 8, .ld none (.t 7), none, [7]⟩,
    ⟨some 9, .call g_spec_l10Entries F_spec_l10Entries [(.S, (.t 6)), (.S, (.t 8))], none, [2, 3, 6, 8]⟩,
    ⟨some 4, .asg (.t 9), none, [9]⟩])
  .ret))
  res := [.tmp 4]
  ptrs := []
  ar := 2
noncomputable def F_spec_RowSame : Fun := lock (denF m_spec_RowSame)
def m_spec_l12Rows : MFun where
  code := (.seq (.reg 0 none [⟨some 4, .asg (.k (.b false)), none, [4]⟩])
  (.seq (.seq (.reg 1 none [⟨some 7, .mv (.t 0), none, []⟩,
    ⟨some 8, .len false (.t 7), none, [7]⟩,
    ⟨some 9, .mv (.t 1), none, []⟩,
    ⟨some 10, .len false (.t 9), none, [9]⟩,
    ⟨some 11, .bin .neq .o (.t 8) (.t 10), none, [8, 10]⟩])
  (.cond (.t 11) (.seq (.reg 2 none [⟨some 4, .asg (.k (.b false)), none, [0, 1, 11]⟩])
  .ret) .sk))
  (.seq (.seq (.reg 3 none [⟨some 5, .asg (.k (.i .i64 0)), none, [11]⟩])
  (.blk 0 (.loop [0, 1, 5] (.seq (.seq (.reg 4 none [⟨some 12, .mv (.t 5), none, []⟩,
    ⟨some 13, .mv (.t 0), none, []⟩,
    ⟨some 14, .len false (.t 13), none, [13]⟩,
    ⟨some 15, .bin .lss .o (.t 12) (.t 14), none, [12, 14]⟩])
  (.cond (.t 15) .sk (.exit 0)))
  (.seq (.blk 1 (.seq (.seq (.reg 6 (some [([0, 15, 18], [15, 18]), ([5, 19], [19]), ([18, 19, 20], [18, 19, 20]), ([20, 21], [20, 21]), ([21, 22], [21, 22]), ([1, 23], [23]), ([5, 24], [24]), ([23, 24, 25], [23, 24, 25]), ([25, 26], [25, 26]), ([26, 27], [26, 27]), ([22, 27, 28], [22, 27, 28])]) [⟨some 18, .mv (.t 0), none, [15]⟩,
    ⟨some 19, .mv (.t 5), none, []⟩,
    ⟨some 20, .ia 1 (.t 18) (.t 19), none, [18, 19]⟩,
    ⟨some 21, .ld none (.t 20), none, [20]⟩,
    ⟨some 22, .len false (.t 21), none, [21]⟩,
    ⟨some 23, .mv (.t 1), none, []⟩,
    ⟨some 24, .mv (.t 5), none, []⟩,
    ⟨some 25, .ia 1 (.t 23) (.t 24), none, [23, 24]⟩,
    ⟨some 26, .ld none (.t 25), none, [25]⟩,
    ⟨some 27, .len false (.t 26), none, [26]⟩,
    ⟨some 28, .bin .neq .o (.t 22) (.t 27), none, [22, 27]⟩])
  (.cond (.t 28) (.seq (.reg 7 none [⟨some 4, .asg (.k (.b false)), none, [0, 1, 5, 28]⟩])
  .ret) .sk))
  (.seq (.reg 8 none [⟨some 6, .asg (.k (.i .i64 0)), none, [28]⟩])
  (.blk 2 (.loop [0, 1, 5, 6] (.seq (.seq (.reg 9 none [⟨some 29, .mv (.t 6), none, []⟩,
    ⟨some 30, .mv (.t 0), none, []⟩,
    ⟨some 31, .mv (.t 5), none, []⟩,
    ⟨some 32, .ia 1 (.t 30) (.t 31), none, [30, 31]⟩,
    ⟨some 33, .ld none (.t 32), none, [32]⟩,
    ⟨some 34, .len false (.t 33), none, [33]⟩,
    ⟨some 35, .bin .lss .o (.t 29) (.t 34), none, [29, 34]⟩])
  (.cond (.t 35) .sk (.exit 2)))
  (.seq (.blk 3 (.seq (.reg 11 (some [([0, 35, 38], [35, 38]), ([5, 39], [39]), ([38, 39, 40], [38, 39, 40]), ([40, 41], [40, 41]), ([6, 42], [42]), ([41, 42, 43], [41, 42, 43]), ([43, 44], [43, 44]), ([1, 45], [45]), ([5, 46], [46]), ([45, 46, 47], [45, 46, 47]), ([47, 48], [47, 48]), ([6, 49], [49]), ([48, 49, 50], [48, 49, 50]), ([50, 51], [50, 51]), ([44, 51, 52], [44, 51, 52]), ([52, 53], [52, 53])]) [⟨some 38, .mv (.t 0), none, [35]⟩,
    ⟨some 39, .mv (.t 5), none, []⟩,
    ⟨some 40, .ia 1 (.t 38) (.t 39), none, [38, 39]⟩,
    ⟨some 41, .ld none (.t 40), none, [40]⟩,
    ⟨some 42, .mv (.t 6), none, []⟩,
    ⟨some 43, .ia 1 (.t 41) (.t 42), none, [41, 42]⟩,
    ⟨some 44, .ld (some 1) (.t 43), none, [43]⟩,
    ⟨some 45, .mv (.t 1), none, []⟩,
    ⟨some 46, .mv (.t 5), none, []⟩,
    ⟨some 47, .ia 1 (.t 45) (.t 46), none, [45, 46]⟩,
    ⟨some 48, .ld none (.t 47), none, [47]⟩,
    ⟨some 49, .mv (.t 6), none, []⟩,
    ⟨some 50, .ia 1 (.t 48) (.t 49), none, [48, 49]⟩,
    ⟨some 51, .ld (some 1) (.t 50), none, [50]⟩,
    ⟨some 52, .call g_spec_RowSame F_spec_RowSame [(.S, (.t 44)), (.S, (.t 51))], none, [44, 51]⟩,
    ⟨some 53, .un .not (.t 52), none, [52]⟩])
  (.cond (.t 53) (.seq (.reg 12 none [⟨some 4, .asg (.k (.b false)), none, [0, 1, 5, 6, 53]⟩])
  .ret) .sk)))
  (.reg 10 none [⟨some 36, .mv (.t 6), none, [6, 53]⟩,
    ⟨some 37, .bin .add .o (.t 36) (.k (.i .i64 1)), none, [36]⟩,
    ⟨some 6, .asg (.t 37), none, [37]⟩]))))))))
  (.reg 5 none [⟨some 16, .mv (.t 5), none, [5, 6, 35]⟩,
    ⟨some 17, .bin .add .o (.t 16) (.k (.i .i64 1)), none, [16]⟩,
    ⟨some 5, .asg (.t 17), none, [17]⟩]))))))
  (.seq (.reg 13 none [⟨some 4, .asg (.k (.b true)), none, [0, 1, 5, 15]⟩])
  .ret))))
  res := [.tmp 4]
  ptrs := []
  ar := 2
noncomputable def F_spec_l12Rows : Fun := lock (denF m_spec_l12Rows)
def m_spec_l12Seat : MFun where
  code := (.seq (.reg 0 none [⟨some 2, .box true (.t 0), none, [0]⟩,
    ⟨some 3, .box true (.t 1), none, [1]⟩,
    ⟨some 4, .asg (.k (.b false)), none, [4]⟩])
  (.seq (.reg 1 none [⟨some 5, .fa (.t 2) 0, none, []⟩,
    ⟨some 6, .ld none (.t 5), none, [5]⟩,
    ⟨some 7, .fa (.t 3) 0, none, []⟩,
    ⟨some 8, .ld none (.t 7), none, [7]⟩,
    ⟨some 9, .bin .eql .o (.t 6) (.t 8), none, [6, 8]⟩,
    ⟨some 10, .mv (.t 9), none, [9]⟩,
    ⟨some 11, .fa (.t 2) 1, some (10, true), []⟩,
    ⟨some 12, .ld none (.t 11), some (10, true), [11]⟩,
    ⟨some 13, .fa (.t 3) 1, some (10, true), []⟩,
    ⟨some 14, .ld none (.t 13), some (10, true), [13]⟩,
    ⟨some 15, .bin .eql .o (.t 12) (.t 14), some (10, true), [12, 14]⟩,
    ⟨some 16, .pick (.t 10) (.t 15) (.k (.b false)), none, [10, 15]⟩,
    ⟨some 17, .mv (.t 16), none, [16]⟩,
    ⟨some 18, .fa (.t 2) 2, some (17, true), []⟩,
    ⟨some 19, .ld none (.t 18), some (17, true), [18]⟩,
    ⟨some 20, .fa (.t 3) 2, some (17, true), []⟩,
    ⟨some 21, .ld none (.t 20), some (17, true), [20]⟩,
    ⟨some 22, .call g_spec_l5Same F_spec_l5Same [(.S, (.t 19)), (.S, (.t 21))], some (17, true), [19, 21]⟩,
    ⟨some 23, .pick (.t 17) (.t 22) (.k (.b false)), none, [17, 22]⟩,
    ⟨some 24, .mv (.t 23), none, [23]⟩,
    ⟨some 25, .fa (.t 2) 3, some (24, true), []⟩,
    ⟨some 26, .ld none (.t 25), some (24, true), [25]⟩,
    ⟨some 27, .fa (.t 3) 3, some (24, true), []⟩,
    ⟨some 28, .ld none (.t 27), some (24, true), [27]⟩,
    ⟨some 29, .bin .eql .o (.t 26) (.t 28), some (24, true), [26, 28]⟩,
    ⟨some 30, .pick (.t 24) (.t 29) (.k (.b false)), none, [24, 29]⟩,
    ⟨some 31, .mv (.t 30), none, [30]⟩,
    ⟨some 32, .fa (.t 2) 4, some (31, true), []⟩,
    ⟨some 33, .ld none (.t 32), some (31, true), [2, 32]⟩,
    ⟨some 34, .fa (.t 3) 4, some (31, true), []⟩,
    ⟨some 35, .ld none (.t 34), some (31, true), [3, 34]⟩,
    ⟨some 36, .bin .eql .o (.t 33) (.t 35), some (31, true), [33, 35]⟩,
    ⟨some 37, .pick (.t 31) (.t 36) (.k (.b false)), none, [31, 36]⟩,
    ⟨some 4, .asg (.t 37), none, [37]⟩])
  .ret))
  res := [.tmp 4]
  ptrs := []
  ar := 2
noncomputable def F_spec_l12Seat : Fun := lock (denF m_spec_l12Seat)
def m_spec_HouseSame : MFun where
  code := (.seq (.reg 0 none [⟨some 2, .box true (.t 0), none, [0]⟩,
    ⟨some 3, .box true (.t 1), none, [1]⟩,
    ⟨some 4, .asg (.k (.b false)), none, [4]⟩])
  (.seq (.seq (.reg 1 none [⟨some 8, .fa (.t 2) 0, none, []⟩,
    ⟨some 9, .ld (some 8) (.t 8), none, [8]⟩,
    ⟨some 10, .fa (.t 3) 0, none, []⟩,
    ⟨some 11, .ld (some 8) (.t 10), none, [10]⟩,
    ⟨some 12, .call g_spec_l12Confs F_spec_l12Confs [(.S, (.t 9)), (.S, (.t 11))], none, [9, 11]⟩,
    ⟨some 13, .un .not (.t 12), none, [12]⟩,
    ⟨some 14, .mv (.t 13), none, [13]⟩,
    ⟨some 15, .fa (.t 2) 8, some (14, false), []⟩,
    ⟨some 16, .ld none (.t 15), some (14, false), [15]⟩,
    ⟨some 17, .fa (.t 3) 8, some (14, false), []⟩,
    ⟨some 18, .ld none (.t 17), some (14, false), [17]⟩,
    ⟨some 19, .bin .neq .o (.t 16) (.t 18), some (14, false), [16, 18]⟩,
    ⟨some 20, .pick (.t 14) (.k (.b true)) (.t 19), none, [14, 19]⟩,
    ⟨some 21, .mv (.t 20), none, [20]⟩,
    ⟨some 22, .fa (.t 2) 9, some (21, false), []⟩,
    ⟨some 23, .ld none (.t 22), some (21, false), [22]⟩,
    ⟨some 24, .fa (.t 3) 9, some (21, false), []⟩,
    ⟨some 25, .ld none (.t 24), some (21, false), [24]⟩,
    ⟨some 26, .bin .neq .b (.t 23) (.t 25), some (21, false), [23, 25]⟩,
    ⟨some 27, .pick (.t 21) (.k (.b true)) (.t 26), none, [21, 26]⟩,
    ⟨some 28, .mv (.t 27), none, [27]⟩,
    ⟨some 29, .fa (.t 2) 13, some (28, false), []⟩,
    ⟨some 30, .ld none (.t 29), some (28, false), [29]⟩,
    ⟨some 31, .fa (.t 3) 13, some (28, false), []⟩,
    ⟨some 32, .ld none (.t 31), some (28, false), [31]⟩,
    ⟨some 33, .bin .neq .o (.t 30) (.t 32), some (28, false), [30, 32]⟩,
    ⟨some 34, .pick (.t 28) (.k (.b true)) (.t 33), none, [28, 33]⟩,
    ⟨some 35, .mv (.t 34), none, [34]⟩,
    ⟨some 36, .fa (.t 2) 10, some (35, false), []⟩,
    ⟨some 37, .ld none (.t 36), some (35, false), [36]⟩,
    ⟨some 38, .len false (.t 37), some (35, false), [37]⟩,
    ⟨some 39, .fa (.t 3) 10, some (35, false), []⟩,
    ⟨some 40, .ld none (.t 39), some (35, false), [39]⟩,
    ⟨some 41, .len false (.t 40), some (35, false), [40]⟩,
    ⟨some 42, .bin .neq .o (.t 38) (.t 41), some (35, false), [38, 41]⟩,
    ⟨some 43, .pick (.t 35) (.k (.b true)) (.t 42), none, [35, 42]⟩,
    ⟨some 44, .mv (.t 43), none, [43]⟩,
    ⟨some 45, .fa (.t 2) 12, some (44, false), []⟩,
    ⟨some 46, .ld none (.t 45), some (44, false), [45]⟩,
    ⟨some 47, .len false (.t 46), some (44, false), [46]⟩,
    ⟨some 48, .fa (.t 3) 12, some (44, false), []⟩,
    ⟨some 49, .ld none (.t 48), some (44, false), [48]⟩,
    ⟨some 50, .len false (.t 49), some (44, false), [49]⟩,
    ⟨some 51, .bin .neq .o (.t 47) (.t 50), some (44, false), [47, 50]⟩,
    ⟨some 52, .pick (.t 44) (.k (.b true)) (.t 51), none, [44, 51]⟩,
    ⟨some 53, .mv (.t 52), none, [52]⟩,
    ⟨some 54, .fa (.t 2) 15, some (53, false), []⟩,
    ⟨some 55, .ld none (.t 54), some (53, false), [54]⟩,
    ⟨some 56, .len false (.t 55), some (53, false), [55]⟩,
    ⟨some 57, .fa (.t 3) 15, some (53, false), []⟩,
    ⟨some 58, .ld none (.t 57), some (53, false), [57]⟩,
    ⟨some 59, .len false (.t 58), some (53, false), [58]⟩,
    ⟨some 60, .bin .neq .o (.t 56) (.t 59), some (53, false), [56, 59]⟩,
    ⟨some 61, .pick (.t 53) (.k (.b true)) (.t 60), none, [53, 60]⟩,
    ⟨some 62, .mv (.t 61), none, [61]⟩,
    ⟨some 63, .fa (.t 2) 11, some (62, false), []⟩,
    ⟨some 64, .ld none (.t 63), some (62, false), [63]⟩,
    ⟨some 65, .fa (.t 3) 11, some (62, false), []⟩,
    ⟨some 66, .ld none (.t 65), some (62, false), [65]⟩,
    ⟨some 67, .call g_spec_l12Rows F_spec_l12Rows [(.S, (.t 64)), (.S, (.t 66))], some (62, false), [64, 66]⟩,
    ⟨some 68, .un .not (.t 67), some (62, false), [67]⟩,
    ⟨some 69, .pick (.t 62) (.k (.b true)) (.t 68), none, [62, 68]⟩,
    ⟨some 70, .mv (.t 69), none, [69]⟩,
    ⟨some 71, .fa (.t 2) 14, some (70, false), []⟩,
    ⟨some 72, .ld none (.t 71), some (70, false), [71]⟩,
    ⟨some 73, .fa (.t 3) 14, some (70, false), []⟩,
    ⟨some 74, .ld none (.t 73), some (70, false), [73]⟩,
    ⟨some 75, .call g_spec_l10Entries F_spec_l10Entries [(.S, (.t 72)), (.S, (.t 74))], some (70, false), [72, 74]⟩,
    ⟨some 76, .un .not (.t 75), some (70, false), [75]⟩,
    ⟨some 77, .pick (.t 70) (.k (.b true)) (.t 76), none, [70, 76]⟩])
  (.cond (.t 77) (.seq (.reg 2 none [⟨some 4, .asg (.k (.b false)), none, [2, 3, 77]⟩])
  .ret) .sk))
  (.seq (.seq (.reg 3 none [⟨some 5, .asg (.k (.i .i64 0)), none, [77]⟩])
  (.blk 0 (.loop [2, 3, 5] (.seq (.seq (.reg 4 none [⟨some 78, .mv (.t 5), none, []⟩,
    ⟨some 79, .fa (.t 2) 10, none, []⟩,
    ⟨some 80, .ld none (.t 79), none, [79]⟩,
    ⟨some 81, .len false (.t 80), none, [80]⟩,
    ⟨some 82, .bin .lss .o (.t 78) (.t 81), none, [78, 81]⟩])
  (.cond (.t 82) .sk (.exit 0)))
  (.seq (.blk 1 (.seq (.reg 6 (some [([2, 82, 85], [82, 85]), ([2, 85, 86], [85, 86]), ([5, 87], [87]), ([2, 86, 87, 88], [86, 87, 88]), ([2, 88, 89], [88, 89]), ([3, 90], [90]), ([3, 90, 91], [90, 91]), ([5, 92], [92]), ([3, 91, 92, 93], [91, 92, 93]), ([3, 93, 94], [93, 94]), ([2, 3, 89, 94, 95], [89, 94, 95]), ([95, 96], [95, 96])]) [⟨some 85, .fa (.t 2) 10, none, [82]⟩,
    ⟨some 86, .ld none (.t 85), none, [85]⟩,
    ⟨some 87, .mv (.t 5), none, []⟩,
    ⟨some 88, .ia 5 (.t 86) (.t 87), none, [86, 87]⟩,
    ⟨some 89, .ld (some 5) (.t 88), none, [88]⟩,
    ⟨some 90, .fa (.t 3) 10, none, []⟩,
    ⟨some 91, .ld none (.t 90), none, [90]⟩,
    ⟨some 92, .mv (.t 5), none, []⟩,
    ⟨some 93, .ia 5 (.t 91) (.t 92), none, [91, 92]⟩,
    ⟨some 94, .ld (some 5) (.t 93), none, [93]⟩,
    ⟨some 95, .call g_spec_l12Seat F_spec_l12Seat [(.S, (.t 89)), (.S, (.t 94))], none, [89, 94]⟩,
    ⟨some 96, .un .not (.t 95), none, [95]⟩])
  (.cond (.t 96) (.seq (.reg 7 none [⟨some 4, .asg (.k (.b false)), none, [2, 3, 5, 96]⟩])
  .ret) .sk)))
  (.reg 5 none [⟨some 83, .mv (.t 5), none, [5, 96]⟩,
    ⟨some 84, .bin .add .o (.t 83) (.k (.i .i64 1)), none, [83]⟩,
    ⟨some 5, .asg (.t 84), none, [84]⟩]))))))
  (.seq (.seq (.reg 8 none [⟨some 6, .asg (.k (.i .i64 0)), none, [5, 82]⟩])
  (.blk 2 (.loop [2, 3, 6] (.seq (.seq (.reg 9 none [⟨some 97, .mv (.t 6), none, []⟩,
    ⟨some 98, .fa (.t 2) 12, none, []⟩,
    ⟨some 99, .ld none (.t 98), none, [98]⟩,
    ⟨some 100, .len false (.t 99), none, [99]⟩,
    ⟨some 101, .bin .lss .o (.t 97) (.t 100), none, [97, 100]⟩])
  (.cond (.t 101) .sk (.exit 2)))
  (.seq (.blk 3 (.seq (.reg 11 (some [([2, 101, 104], [101, 104]), ([2, 104, 105], [104, 105]), ([6, 106], [106]), ([2, 105, 106, 107], [105, 106, 107]), ([2, 107, 108], [107, 108]), ([2, 108, 109], [108, 109]), ([3, 110], [110]), ([3, 110, 111], [110, 111]), ([6, 112], [112]), ([3, 111, 112, 113], [111, 112, 113]), ([3, 113, 114], [113, 114]), ([3, 114, 115], [114, 115]), ([109, 115, 116], [109, 115, 116]), ([116, 117], [116, 117]), ([2, 117, 118], [118]), ([2, 117, 118, 119], [118, 119]), ([6, 117, 120], [120]), ([2, 117, 119, 120, 121], [119, 120, 121]), ([2, 117, 121, 122], [121, 122]), ([2, 117, 122, 123], [122, 123]), ([3, 117, 124], [124]), ([3, 117, 124, 125], [124, 125]), ([6, 117, 126], [126]), ([3, 117, 125, 126, 127], [125, 126, 127]), ([3, 117, 127, 128], [127, 128]), ([3, 117, 128, 129], [128, 129]), ([117, 123, 129, 130], [123, 129, 130]), ([117, 130, 131], [117, 130, 131]), ([131, 132], [131, 132]), ([2, 132, 133], [133]), ([2, 132, 133, 134], [133, 134]), ([6, 132, 135], [135]), ([2, 132, 134, 135, 136], [134, 135, 136]), ([2, 132, 136, 137], [136, 137]), ([2, 132, 137, 138], [137, 138]), ([3, 132, 139], [139]), ([3, 132, 139, 140], [139, 140]), ([6, 132, 141], [141]), ([3, 132, 140, 141, 142], [140, 141, 142]), ([3, 132, 142, 143], [142, 143]), ([3, 132, 143, 144], [143, 144]), ([2, 3, 132, 138, 144, 145], [138, 144, 145]), ([132, 145, 146], [145, 146]), ([132, 146, 147], [132, 146, 147])]) [⟨some 104, .fa (.t 2) 12, none, [101]⟩,
    ⟨some 105, .ld none (.t 104), none, [104]⟩,
    ⟨some 106, .mv (.t 6), none, []⟩,
    ⟨some 107, .ia 3 (.t 105) (.t 106), none, [105, 106]⟩,
    ⟨some 108, .fa (.t 107) 0, none, [107]⟩,
    ⟨some 109, .ld none (.t 108), none, [108]⟩,
    ⟨some 110, .fa (.t 3) 12, none, []⟩,
    ⟨some 111, .ld none (.t 110), none, [110]⟩,
    ⟨some 112, .mv (.t 6), none, []⟩,
    ⟨some 113, .ia 3 (.t 111) (.t 112), none, [111, 112]⟩,
    ⟨some 114, .fa (.t 113) 0, none, [113]⟩,
    ⟨some 115, .ld none (.t 114), none, [114]⟩,
    ⟨some 116, .bin .neq .o (.t 109) (.t 115), none, [109, 115]⟩,
    ⟨some 117, .mv (.t 116), none, [116]⟩,
    ⟨some 118, .fa (.t 2) 12, some (117, false), []⟩,
    ⟨some 119, .ld none (.t 118), some (117, false), [118]⟩,
    ⟨some 120, .mv (.t 6), some (117, false), []⟩,
    ⟨some 121, .ia 3 (.t 119) (.t 120), some (117, false), [119, 120]⟩,
    ⟨some 122, .fa (.t 121) 1, some (117, false), [121]⟩,
    ⟨some 123, .ld none (.t 122), some (117, false), [122]⟩,
    ⟨some 124, .fa (.t 3) 12, some (117, false), []⟩,
    ⟨some 125, .ld none (.t 124), some (117, false), [124]⟩,
    ⟨some 126, .mv (.t 6), some (117, false), []⟩,
    ⟨some 127, .ia 3 (.t 125) (.t 126), some (117, false), [125, 126]⟩,
    ⟨some 128, .fa (.t 127) 1, some (117, false), [127]⟩,
    ⟨some 129, .ld none (.t 128), some (117, false), [128]⟩,
    ⟨some 130, .bin .neq .b (.t 123) (.t 129), some (117, false), [123, 129]⟩,
    ⟨some 131, .pick (.t 117) (.k (.b true)) (.t 130), none, [117, 130]⟩,
    ⟨some 132, .mv (.t 131), none, [131]⟩,
    ⟨some 133, .fa (.t 2) 12, some (132, false), []⟩,
    ⟨some 134, .ld none (.t 133), some (132, false), [133]⟩,
    ⟨some 135, .mv (.t 6), some (132, false), []⟩,
    ⟨some 136, .ia 3 (.t 134) (.t 135), some (132, false), [134, 135]⟩,
    ⟨some 137, .fa (.t 136) 2, some (132, false), [136]⟩,
    ⟨some 138, .ld none (.t 137), some (132, false), [137]⟩,
    ⟨some 139, .fa (.t 3) 12, some (132, false), []⟩,
    ⟨some 140, .ld none (.t 139), some (132, false), [139]⟩,
    ⟨some 141, .mv (.t 6), some (132, false), []⟩,
    ⟨some 142, .ia 3 (.t 140) (.t 141), some (132, false), [140, 141]⟩,
    ⟨some 143, .fa (.t 142) 2, some (132, false), [142]⟩,
    ⟨some 144, .ld none (.t 143), some (132, false), [143]⟩,
    ⟨some 145, .call g_spec_l1Same F_spec_l1Same [(.S, (.t 138)), (.S, (.t 144))], some (132, false), [138, 144]⟩,
    ⟨some 146, .un .not (.t 145), some (132, false), [145]⟩,
    ⟨some 147, .pick (.t 132) (.k (.b true)) (.t 146), none, [132, 146]⟩])
  (.cond (.t 147) (.seq (.reg 12 none [⟨some 4, .asg (.k (.b false)), none, [2, 3, 6, 147]⟩])
  .ret) .sk)))
  (.reg 10 none [⟨some 102, .mv (.t 6), none, [6, 147]⟩,
    ⟨some 103, .bin .add .o (.t 102) (.k (.i .i64 1)), none, [102]⟩,
    ⟨some 6, .asg (.t 103), none, [103]⟩]))))))
  (.seq (.seq (.reg 13 none [⟨some 7, .asg (.k (.i .i64 0)), none, [6, 101]⟩])
  (.blk 4 (.loop [2, 3, 7] (.seq (.seq (.reg 14 none [⟨some 148, .mv (.t 7), none, []⟩,
    ⟨some 149, .fa (.t 2) 15, none, []⟩,
    ⟨some 150, .ld none (.t 149), none, [149]⟩,
    ⟨some 151, .len false (.t 150), none, [150]⟩,
    ⟨some 152, .bin .lss .o (.t 148) (.t 151), none, [148, 151]⟩])
  (.cond (.t 152) .sk (.exit 4)))
  (.seq (.blk 5 (.seq (.reg 16 (some [([2, 152, 155], [152, 155]), ([2, 155, 156], [155, 156]), ([7, 157], [157]), ([2, 156, 157, 158], [156, 157, 158]), ([2, 158, 159], [158, 159]), ([2, 159, 160], [159, 160]), ([3, 161], [161]), ([3, 161, 162], [161, 162]), ([7, 163], [163]), ([3, 162, 163, 164], [162, 163, 164]), ([3, 164, 165], [164, 165]), ([3, 165, 166], [165, 166]), ([160, 166, 167], [160, 166, 167]), ([167, 168], [167, 168]), ([2, 168, 169], [169]), ([2, 168, 169, 170], [169, 170]), ([7, 168, 171], [171]), ([2, 168, 170, 171, 172], [170, 171, 172]), ([2, 168, 172, 173], [172, 173]), ([2, 168, 173, 174], [173, 174]), ([3, 168, 175], [175]), ([3, 168, 175, 176], [175, 176]), ([7, 168, 177], [177]), ([3, 168, 176, 177, 178], [176, 177, 178]), ([3, 168, 178, 179], [178, 179]), ([3, 168, 179, 180], [179, 180]), ([2, 3, 168, 174, 180, 181], [174, 180, 181]), ([168, 181, 182], [181, 182]), ([168, 182, 183], [168, 182, 183])]) [⟨some 155, .fa (.t 2) 15, none, [152]⟩,
    ⟨some 156, .ld none (.t 155), none, [155]⟩,
    ⟨some 157, .mv (.t 7), none, []⟩,
    ⟨some 158, .ia 11 (.t 156) (.t 157), none, [156, 157]⟩,
    ⟨some 159, .fa (.t 158) 0, none, [158]⟩,
    ⟨some 160, .ld none (.t 159), none, [159]⟩,
    ⟨some 161, .fa (.t 3) 15, none, []⟩,
    ⟨some 162, .ld none (.t 161), none, [161]⟩,
    ⟨some 163, .mv (.t 7), none, []⟩,
    ⟨some 164, .ia 11 (.t 162) (.t 163), none, [162, 163]⟩,
    ⟨some 165, .fa (.t 164) 0, none, [164]⟩,
    ⟨some 166, .ld none (.t 165), none, [165]⟩,
    ⟨some 167, .bin .neq .o (.t 160) (.t 166), none, [160, 166]⟩,
    ⟨some 168, .mv (.t 167), none, [167]⟩,
    ⟨some 169, .fa (.t 2) 15, some (168, false), []⟩,
    ⟨some 170, .ld none (.t 169), some (168, false), [169]⟩,
    ⟨some 171, .mv (.t 7), some (168, false), []⟩,
    ⟨some 172, .ia 11 (.t 170) (.t 171), some (168, false), [170, 171]⟩,
    ⟨some 173, .fa (.t 172) 1, some (168, false), [172]⟩,
    ⟨some 174, .ld (some 10) (.t 173), some (168, false), [173]⟩,
    ⟨some 175, .fa (.t 3) 15, some (168, false), []⟩,
    ⟨some 176, .ld none (.t 175), some (168, false), [175]⟩,
    ⟨some 177, .mv (.t 7), some (168, false), []⟩,
    ⟨some 178, .ia 11 (.t 176) (.t 177), some (168, false), [176, 177]⟩,
    ⟨some 179, .fa (.t 178) 1, some (168, false), [178]⟩,
    ⟨some 180, .ld (some 10) (.t 179), some (168, false), [179]⟩,
    ⟨some 181, .call g_spec_EntrySame F_spec_EntrySame [(.S, (.t 174)), (.S, (.t 180))], some (168, false), [174, 180]⟩,
    ⟨some 182, .un .not (.t 181), some (168, false), [181]⟩,
    ⟨some 183, .pick (.t 168) (.k (.b true)) (.t 182), none, [168, 182]⟩])
  (.cond (.t 183) (.seq (.reg 17 none [⟨some 4, .asg (.k (.b false)), none, [2, 3, 7, 183]⟩])
  .ret) .sk)))
  (.reg 15 none [⟨some 153, .mv (.t 7), none, [7, 183]⟩,
    ⟨some 154, .bin .add .o (.t 153) (.k (.i .i64 1)), none, [153]⟩,
    ⟨some 7, .asg (.t 154), none, [154]⟩]))))))
  (.seq (.reg 18 none [⟨some 4, .asg (.k (.b true)), none, [2, 3, 7, 152]⟩])
  .ret))))))
  res := [.tmp 4]
  ptrs := []
  ar := 2
noncomputable def F_spec_HouseSame : Fun := lock (denF m_spec_HouseSame)
def m_spec_l7Item : MFun where
  code := (.seq (.reg 0 none [⟨some 2, .box true (.t 0), none, [0]⟩,
    ⟨some 3, .box true (.t 1), none, [1]⟩,
    ⟨some 4, .asg (.k (.b false)), none, [4]⟩])
  (.seq (.reg 1 none [⟨some 5, .fa (.t 2) 0, none, []⟩,
    ⟨some 6, .ld none (.t 5), none, [5]⟩,
    ⟨some 7, .fa (.t 3) 0, none, []⟩,
    ⟨some 8, .ld none (.t 7), none, [7]⟩,
    ⟨some 9, .bin .eql .o (.t 6) (.t 8), none, [6, 8]⟩,
    ⟨some 10, .mv (.t 9), none, [9]⟩,
    ⟨some 11, .fa (.t 2) 1, some (10, true), []⟩,
    ⟨some 12, .ld none (.t 11), some (10, true), [11]⟩,
    ⟨some 13, .fa (.t 3) 1, some (10, true), []⟩,
    ⟨some 14, .ld none (.t 13), some (10, true), [13]⟩,
    ⟨some 15, .bin .eql .o (.t 12) (.t 14), some (10, true), [12, 14]⟩,
    ⟨some 16, .pick (.t 10) (.t 15) (.k (.b false)), none, [10, 15]⟩,
    ⟨some 17, .mv (.t 16), none, [16]⟩,
    ⟨some 18, .fa (.t 2) 2, some (17, true), []⟩,
    ⟨some 19, .ld none (.t 18), some (17, true), [18]⟩,
    ⟨some 20, .fa (.t 3) 2, some (17, true), []⟩,
    ⟨some 21, .ld none (.t 20), some (17, true), [20]⟩,
    ⟨some 22, .bin .eql .o (.t 19) (.t 21), some (17, true), [19, 21]⟩,
    ⟨some 23, .pick (.t 17) (.t 22) (.k (.b false)), none, [17, 22]⟩,
    ⟨some 24, .mv (.t 23), none, [23]⟩,
    ⟨some 25, .fa (.t 2) 3, some (24, true), []⟩,
    ⟨some 26, .ld none (.t 25), some (24, true), [25]⟩,
    ⟨some 27, .fa (.t 3) 3, some (24, true), []⟩,
    ⟨some 28, .ld none (.t 27), some (24, true), [27]⟩,
    ⟨some 29, .bin .eql .o (.t 26) (.t 28), some (24, true), [26, 28]⟩,
    ⟨some 30, .pick (.t 24) (.t 29) (.k (.b false)), none, [24, 29]⟩,
    ⟨some 31, .mv (.t 30), none, [30]⟩,
    ⟨some 32, .fa (.t 2) 4, some (31, true), []⟩,
    ⟨some 33, .ld (some 7) (.t 32), some (31, true), [32]⟩,
    ⟨some 34, .fa (.t 3) 4, some (31, true), []⟩,
    ⟨some 35, .ld (some 7) (.t 34), some (31, true), [34]⟩,
    ⟨some 36, .call g_spec_SketchSame F_spec_SketchSame [(.S, (.t 33)), (.S, (.t 35))], some (31, true), [2, 3, 33, 35]⟩,
    ⟨some 37, .pick (.t 31) (.t 36) (.k (.b false)), none, [31, 36]⟩,
    ⟨some 4, .asg (.t 37), none, [37]⟩])
  .ret))
  res := [.tmp 4]
  ptrs := []
  ar := 2
noncomputable def F_spec_l7Item : Fun := lock (denF m_spec_l7Item)
def m_spec_l17Agents : MFun where
  code := (.seq (.reg 0 none [⟨some 2, .box true (.t 0), none, [0]⟩,
    ⟨some 3, .box true (.t 1), none, [1]⟩,
    ⟨some 4, .asg (.k (.b false)), none, [4]⟩])
  (.seq (.seq (.reg 1 none [⟨some 6, .fa (.t 2) 0, none, []⟩,
    ⟨some 7, .ld none (.t 6), none, [6]⟩,
    ⟨some 8, .fa (.t 3) 0, none, []⟩,
    ⟨some 9, .ld none (.t 8), none, [8]⟩,
    ⟨some 10, .bin .neq .o (.t 7) (.t 9), none, [7, 9]⟩,
    ⟨some 11, .mv (.t 10), none, [10]⟩,
    ⟨some 12, .fa (.t 2) 1, some (11, false), []⟩,
    ⟨some 13, .ld none (.t 12), some (11, false), [12]⟩,
    ⟨some 14, .fa (.t 3) 1, some (11, false), []⟩,
    ⟨some 15, .ld none (.t 14), some (11, false), [14]⟩,
    ⟨some 16, .bin .neq .o (.t 13) (.t 15), some (11, false), [13, 15]⟩,
    ⟨some 17, .pick (.t 11) (.k (.b true)) (.t 16), none, [11, 16]⟩,
    ⟨some 18, .mv (.t 17), none, [17]⟩,
    ⟨some 19, .fa (.t 2) 2, some (18, false), []⟩,
    ⟨some 20, .ld none (.t 19), some (18, false), [19]⟩,
    ⟨some 21, .fa (.t 3) 2, some (18, false), []⟩,
    ⟨some 22, .ld none (.t 21), some (18, false), [21]⟩,
    ⟨some 23, .bin .neq .b (.t 20) (.t 22), some (18, false), [20, 22]⟩,
    ⟨some 24, .pick (.t 18) (.k (.b true)) (.t 23), none, [18, 23]⟩,
    ⟨some 25, .mv (.t 24), none, [24]⟩,
    ⟨some 26, .fa (.t 2) 3, some (25, false), []⟩,
    ⟨some 27, .ld none (.t 26), some (25, false), [26]⟩,
    ⟨some 28, .fa (.t 3) 3, some (25, false), []⟩,
    ⟨some 29, .ld none (.t 28), some (25, false), [28]⟩,
    ⟨some 30, .bin .neq .o (.t 27) (.t 29), some (25, false), [27, 29]⟩,
    ⟨some 31, .pick (.t 25) (.k (.b true)) (.t 30), none, [25, 30]⟩,
    ⟨some 32, .mv (.t 31), none, [31]⟩,
    ⟨some 33, .fa (.t 2) 6, some (32, false), []⟩,
    ⟨some 34, .ld none (.t 33), some (32, false), [33]⟩,
    ⟨some 35, .fa (.t 3) 6, some (32, false), []⟩,
    ⟨some 36, .ld none (.t 35), some (32, false), [35]⟩,
    ⟨some 37, .bin .neq .o (.t 34) (.t 36), some (32, false), [34, 36]⟩,
    ⟨some 38, .pick (.t 32) (.k (.b true)) (.t 37), none, [32, 37]⟩,
    ⟨some 39, .mv (.t 38), none, [38]⟩,
    ⟨some 40, .fa (.t 2) 5, some (39, false), []⟩,
    ⟨some 41, .ld none (.t 40), some (39, false), [40]⟩,
    ⟨some 42, .fa (.t 3) 5, some (39, false), []⟩,
    ⟨some 43, .ld none (.t 42), some (39, false), [42]⟩,
    ⟨some 44, .call g_spec_l5Same F_spec_l5Same [(.S, (.t 41)), (.S, (.t 43))], some (39, false), [41, 43]⟩,
    ⟨some 45, .un .not (.t 44), some (39, false), [44]⟩,
    ⟨some 46, .pick (.t 39) (.k (.b true)) (.t 45), none, [39, 45]⟩,
    ⟨some 47, .mv (.t 46), none, [46]⟩,
    ⟨some 48, .fa (.t 2) 4, some (47, false), []⟩,
    ⟨some 49, .ld none (.t 48), some (47, false), [48]⟩,
    ⟨some 50, .len false (.t 49), some (47, false), [49]⟩,
    ⟨some 51, .fa (.t 3) 4, some (47, false), []⟩,
    ⟨some 52, .ld none (.t 51), some (47, false), [51]⟩,
    ⟨some 53, .len false (.t 52), some (47, false), [52]⟩,
    ⟨some 54, .bin .neq .o (.t 50) (.t 53), some (47, false), [50, 53]⟩,
    ⟨some 55, .pick (.t 47) (.k (.b true)) (.t 54), none, [47, 54]⟩])
  (.cond (.t 55) (.seq (.reg 2 none [⟨some 4, .asg (.k (.b false)), none, [2, 3, 55]⟩])
  .ret) .sk))
  (.seq (.seq (.reg 3 none [⟨some 5, .asg (.k (.i .i64 0)), none, [55]⟩])
  (.blk 0 (.loop [2, 3, 5] (.seq (.seq (.reg 4 none [⟨some 56, .mv (.t 5), none, []⟩,
    ⟨some 57, .fa (.t 2) 4, none, []⟩,
    ⟨some 58, .ld none (.t 57), none, [57]⟩,
    ⟨some 59, .len false (.t 58), none, [58]⟩,
    ⟨some 60, .bin .lss .o (.t 56) (.t 59), none, [56, 59]⟩])
  (.cond (.t 60) .sk (.exit 0)))
  (.seq (.blk 1 (.seq (.reg 6 (some [([2, 60, 63], [60, 63]), ([2, 63, 64], [63, 64]), ([5, 65], [65]), ([2, 64, 65, 66], [64, 65, 66]), ([2, 66, 67], [66, 67]), ([3, 68], [68]), ([3, 68, 69], [68, 69]), ([5, 70], [70]), ([3, 69, 70, 71], [69, 70, 71]), ([3, 71, 72], [71, 72]), ([2, 3, 67, 72, 73], [67, 72, 73]), ([73, 74], [73, 74])]) [⟨some 63, .fa (.t 2) 4, none, [60]⟩,
    ⟨some 64, .ld none (.t 63), none, [63]⟩,
    ⟨some 65, .mv (.t 5), none, []⟩,
    ⟨some 66, .ia 11 (.t 64) (.t 65), none, [64, 65]⟩,
    ⟨some 67, .ld (some 11) (.t 66), none, [66]⟩,
    ⟨some 68, .fa (.t 3) 4, none, []⟩,
    ⟨some 69, .ld none (.t 68), none, [68]⟩,
    ⟨some 70, .mv (.t 5), none, []⟩,
    ⟨some 71, .ia 11 (.t 69) (.t 70), none, [69, 70]⟩,
    ⟨some 72, .ld (some 11) (.t 71), none, [71]⟩,
    ⟨some 73, .call g_spec_l7Item F_spec_l7Item [(.S, (.t 67)), (.S, (.t 72))], none, [67, 72]⟩,
    ⟨some 74, .un .not (.t 73), none, [73]⟩])
  (.cond (.t 74) (.seq (.reg 7 none [⟨some 4, .asg (.k (.b false)), none, [2, 3, 5, 74]⟩])
  .ret) .sk)))
  (.reg 5 none [⟨some 61, .mv (.t 5), none, [5, 74]⟩,
    ⟨some 62, .bin .add .o (.t 61) (.k (.i .i64 1)), none, [61]⟩,
    ⟨some 5, .asg (.t 62), none, [62]⟩]))))))
  (.seq (.reg 8 none [⟨some 4, .asg (.k (.b true)), none, [2, 3, 5, 60]⟩])
  .ret))))
  res := [.tmp 4]
  ptrs := []
  ar := 2
noncomputable def F_spec_l17Agents : Fun := lock (denF m_spec_l17Agents)
def m_spec_WorldSame : MFun where
  code := (.seq (.reg 0 none [⟨some 2, .box true (.t 0), none, [0]⟩,
    ⟨some 3, .box true (.t 1), none, [1]⟩,
    ⟨some 4, .asg (.k (.b false)), none, [4]⟩])
  (.seq (.seq (.reg 1 none [⟨some 7, .fa (.t 2) 0, none, []⟩,
    ⟨some 8, .ld none (.t 7), none, [7]⟩,
    ⟨some 9, .len false (.t 8), none, [8]⟩,
    ⟨some 10, .fa (.t 3) 0, none, []⟩,
    ⟨some 11, .ld none (.t 10), none, [10]⟩,
    ⟨some 12, .len false (.t 11), none, [11]⟩,
    ⟨some 13, .bin .neq .o (.t 9) (.t 12), none, [9, 12]⟩,
    ⟨some 14, .mv (.t 13), none, [13]⟩,
    ⟨some 15, .fa (.t 2) 17, some (14, false), []⟩,
    ⟨some 16, .ld none (.t 15), some (14, false), [15]⟩,
    ⟨some 17, .len false (.t 16), some (14, false), [16]⟩,
    ⟨some 18, .fa (.t 3) 17, some (14, false), []⟩,
    ⟨some 19, .ld none (.t 18), some (14, false), [18]⟩,
    ⟨some 20, .len false (.t 19), some (14, false), [19]⟩,
    ⟨some 21, .bin .neq .o (.t 17) (.t 20), some (14, false), [17, 20]⟩,
    ⟨some 22, .pick (.t 14) (.k (.b true)) (.t 21), none, [14, 21]⟩,
    ⟨some 23, .mv (.t 22), none, [22]⟩,
    ⟨some 24, .fa (.t 2) 1, some (23, false), []⟩,
    ⟨some 25, .ld (some 16) (.t 24), some (23, false), [24]⟩,
    ⟨some 26, .fa (.t 3) 1, some (23, false), []⟩,
    ⟨some 27, .ld (some 16) (.t 26), some (23, false), [26]⟩,
    ⟨some 28, .call g_spec_HouseSame F_spec_HouseSame [(.S, (.t 25)), (.S, (.t 27))], some (23, false), [25, 27]⟩,
    ⟨some 29, .un .not (.t 28), some (23, false), [28]⟩,
    ⟨some 30, .pick (.t 23) (.k (.b true)) (.t 29), none, [23, 29]⟩])
  (.cond (.t 30) (.seq (.reg 2 none [⟨some 4, .asg (.k (.b false)), none, [2, 3, 30]⟩])
  .ret) .sk))
  (.seq (.seq (.reg 3 none [⟨some 5, .asg (.k (.i .i64 0)), none, [30]⟩])
  (.blk 0 (.loop [2, 3, 5] (.seq (.seq (.reg 4 none [⟨some 31, .mv (.t 5), none, []⟩,
    ⟨some 32, .fa (.t 2) 0, none, []⟩,
    ⟨some 33, .ld none (.t 32), none, [32]⟩,
    ⟨some 34, .len false (.t 33), none, [33]⟩,
    ⟨some 35, .bin .lss .o (.t 31) (.t 34), none, [31, 34]⟩])
  (.cond (.t 35) .sk (.exit 0)))
  (.seq (.blk 1 (.seq (.reg 6 (some [([2, 35, 38], [35, 38]), ([2, 38, 39], [38, 39]), ([5, 40], [40]), ([2, 39, 40, 41], [39, 40, 41]), ([2, 41, 42], [41, 42]), ([3, 43], [43]), ([3, 43, 44], [43, 44]), ([5, 45], [45]), ([3, 44, 45, 46], [44, 45, 46]), ([3, 46, 47], [46, 47]), ([2, 3, 42, 47, 48], [42, 47, 48]), ([48, 49], [48, 49])]) [⟨some 38, .fa (.t 2) 0, none, [35]⟩,
    ⟨some 39, .ld none (.t 38), none, [38]⟩,
    ⟨some 40, .mv (.t 5), none, []⟩,
    ⟨some 41, .ia 7 (.t 39) (.t 40), none, [39, 40]⟩,
    ⟨some 42, .ld (some 7) (.t 41), none, [41]⟩,
    ⟨some 43, .fa (.t 3) 0, none, []⟩,
    ⟨some 44, .ld none (.t 43), none, [43]⟩,
    ⟨some 45, .mv (.t 5), none, []⟩,
    ⟨some 46, .ia 7 (.t 44) (.t 45), none, [44, 45]⟩,
    ⟨some 47, .ld (some 7) (.t 46), none, [46]⟩,
    ⟨some 48, .call g_spec_l17Agents F_spec_l17Agents [(.S, (.t 42)), (.S, (.t 47))], none, [42, 47]⟩,
    ⟨some 49, .un .not (.t 48), none, [48]⟩])
  (.cond (.t 49) (.seq (.reg 7 none [⟨some 4, .asg (.k (.b false)), none, [2, 3, 5, 49]⟩])
  .ret) .sk)))
  (.reg 5 none [⟨some 36, .mv (.t 5), none, [5, 49]⟩,
    ⟨some 37, .bin .add .o (.t 36) (.k (.i .i64 1)), none, [36]⟩,
    ⟨some 5, .asg (.t 37), none, [37]⟩]))))))
  (.seq (.seq (.reg 8 none [⟨some 6, .asg (.k (.i .i64 0)), none, [5, 35]⟩])
  (.blk 2 (.loop [2, 3, 6] (.seq (.seq (.reg 9 none [⟨some 50, .mv (.t 6), none, []⟩,
    ⟨some 51, .fa (.t 2) 17, none, []⟩,
    ⟨some 52, .ld none (.t 51), none, [51]⟩,
    ⟨some 53, .len false (.t 52), none, [52]⟩,
    ⟨some 54, .bin .lss .o (.t 50) (.t 53), none, [50, 53]⟩])
  (.cond (.t 54) .sk (.exit 2)))
  (.seq (.blk 3 (.seq (.reg 11 (some [([2, 54, 57], [54, 57]), ([2, 57, 58], [57, 58]), ([6, 59], [59]), ([2, 58, 59, 60], [58, 59, 60]), ([2, 60, 61], [60, 61]), ([2, 61, 62], [61, 62]), ([3, 63], [63]), ([3, 63, 64], [63, 64]), ([6, 65], [65]), ([3, 64, 65, 66], [64, 65, 66]), ([3, 66, 67], [66, 67]), ([3, 67, 68], [67, 68]), ([62, 68, 69], [62, 68, 69]), ([69, 70], [69, 70]), ([2, 70, 71], [71]), ([2, 70, 71, 72], [71, 72]), ([6, 70, 73], [73]), ([2, 70, 72, 73, 74], [72, 73, 74]), ([2, 70, 74, 75], [74, 75]), ([2, 70, 75, 76], [75, 76]), ([3, 70, 77], [77]), ([3, 70, 77, 78], [77, 78]), ([6, 70, 79], [79]), ([3, 70, 78, 79, 80], [78, 79, 80]), ([3, 70, 80, 81], [80, 81]), ([3, 70, 81, 82], [81, 82]), ([70, 76, 82, 83], [76, 82, 83]), ([70, 83, 84], [70, 83, 84]), ([84, 85], [84, 85]), ([2, 85, 86], [86]), ([2, 85, 86, 87], [86, 87]), ([6, 85, 88], [88]), ([2, 85, 87, 88, 89], [87, 88, 89]), ([2, 85, 89, 90], [89, 90]), ([2, 85, 90, 91], [90, 91]), ([2, 85, 91, 92], [91, 92]), ([3, 85, 93], [93]), ([3, 85, 93, 94], [93, 94]), ([6, 85, 95], [95]), ([3, 85, 94, 95, 96], [94, 95, 96]), ([3, 85, 96, 97], [96, 97]), ([3, 85, 97, 98], [97, 98]), ([3, 85, 98, 99], [98, 99]), ([85, 92, 99, 100], [92, 99, 100]), ([85, 100, 101], [85, 100, 101])]) [⟨some 57, .fa (.t 2) 17, none, [54]⟩,
    ⟨some 58, .ld none (.t 57), none, [57]⟩,
    ⟨some 59, .mv (.t 6), none, []⟩,
    ⟨some 60, .ia 3 (.t 58) (.t 59), none, [58, 59]⟩,
    ⟨some 61, .fa (.t 60) 0, none, [60]⟩,
    ⟨some 62, .ld none (.t 61), none, [61]⟩,
    ⟨some 63, .fa (.t 3) 17, none, []⟩,
    ⟨some 64, .ld none (.t 63), none, [63]⟩,
    ⟨some 65, .mv (.t 6), none, []⟩,
    ⟨some 66, .ia 3 (.t 64) (.t 65), none, [64, 65]⟩,
    ⟨some 67, .fa (.t 66) 0, none, [66]⟩,
    ⟨some 68, .ld none (.t 67), none, [67]⟩,
    ⟨some 69, .bin .neq .o (.t 62) (.t 68), none, [62, 68]⟩,
    ⟨some 70, .mv (.t 69), none, [69]⟩,
    ⟨some 71, .fa (.t 2) 17, some (70, false), []⟩,
    ⟨some 72, .ld none (.t 71), some (70, false), [71]⟩,
    ⟨some 73, .mv (.t 6), some (70, false), []⟩,
    ⟨some 74, .ia 3 (.t 72) (.t 73), some (70, false), [72, 73]⟩,
    ⟨some 75, .fa (.t 74) 2, some (70, false), [74]⟩,
    ⟨some 76, .ld none (.t 75), some (70, false), [75]⟩,
    ⟨some 77, .fa (.t 3) 17, some (70, false), []⟩,
    ⟨some 78, .ld none (.t 77), some (70, false), [77]⟩,
    ⟨some 79, .mv (.t 6), some (70, false), []⟩,
    ⟨some 80, .ia 3 (.t 78) (.t 79), some (70, false), [78, 79]⟩,
    ⟨some 81, .fa (.t 80) 2, some (70, false), [80]⟩,
    ⟨some 82, .ld none (.t 81), some (70, false), [81]⟩,
    ⟨some 83, .bin .neq .b (.t 76) (.t 82), some (70, false), [76, 82]⟩,
    ⟨some 84, .pick (.t 70) (.k (.b true)) (.t 83), none, [70, 83]⟩,
    ⟨some 85, .mv (.t 84), none, [84]⟩,
    ⟨some 86, .fa (.t 2) 17, some (85, false), []⟩,
    ⟨some 87, .ld none (.t 86), some (85, false), [86]⟩,
    ⟨some 88, .mv (.t 6), some (85, false), []⟩,
    ⟨some 89, .ia 3 (.t 87) (.t 88), some (85, false), [87, 88]⟩,
    ⟨some 90, .fa (.t 89) 1, some (85, false), [89]⟩,
    ⟨some 91, .ld none (.t 90), some (85, false), [90]⟩,
    ⟨some 92, .toStr (.t 91), some (85, false), [91]⟩,
    ⟨some 93, .fa (.t 3) 17, some (85, false), []⟩,
    ⟨some 94, .ld none (.t 93), some (85, false), [93]⟩,
    ⟨some 95, .mv (.t 6), some (85, false), []⟩,
    ⟨some 96, .ia 3 (.t 94) (.t 95), some (85, false), [94, 95]⟩,
    ⟨some 97, .fa (.t 96) 1, some (85, false), [96]⟩,
    ⟨some 98, .ld none (.t 97), some (85, false), [97]⟩,
    ⟨some 99, .toStr (.t 98), some (85, false), [98]⟩,
    ⟨some 100, .bin .neq .o (.t 92) (.t 99), some (85, false), [92, 99]⟩,
    ⟨some 101, .pick (.t 85) (.k (.b true)) (.t 100), none, [85, 100]⟩])
  (.cond (.t 101) (.seq (.reg 12 none [⟨some 4, .asg (.k (.b false)), none, [2, 3, 6, 101]⟩])
  .ret) .sk)))
  (.reg 10 none [⟨some 55, .mv (.t 6), none, [6, 101]⟩,
    ⟨some 56, .bin .add .o (.t 55) (.k (.i .i64 1)), none, [55]⟩,
    ⟨some 6, .asg (.t 56), none, [56]⟩]))))))
  (.seq (.reg 13 none [⟨some 4, .asg (.k (.b true)), none, [2, 3, 6, 54]⟩])
  .ret)))))
  res := [.tmp 4]
  ptrs := []
  ar := 2
noncomputable def F_spec_WorldSame : Fun := lock (denF m_spec_WorldSame)
def m_laws_FnExactWorldSame : MFun where
  code := (.seq (.reg 0 none [⟨some 2, .box true (.t 0), none, [0]⟩,
    ⟨some 3, .box true (.t 1), none, [1]⟩,
    ⟨some 4, .asg (.k (.b false)), none, [4]⟩])
  (.seq (.reg 1 none [⟨some 5, .asg (.k (.i .i64 1048576)), none, []⟩])
  (.seq (.reg 2 none [⟨some 10, .ld (some 18) (.t 2), none, []⟩,
    ⟨some 11, .mv (.t 5), none, [5]⟩,
    ⟨some 12, .call g_laws_szWorld F_laws_szWorld [(.S, (.t 10)), (.S, (.t 11))], none, [10, 11]⟩,
    ⟨some 5, .asg (.t 12), none, [12]⟩])
  (.seq (.seq (.reg 3 none [⟨some 13, .mv (.t 5), none, []⟩,
    ⟨some 14, .bin .lss .o (.t 13) (.k (.i .i64 0)), none, [13]⟩])
  (.cond (.t 14) (.seq (.reg 4 none [⟨some 4, .asg (.k (.b true)), none, [2, 3, 5, 14]⟩])
  .ret) .sk))
  (.seq (.reg 5 none [⟨some 15, .ld (some 18) (.t 3), none, [14]⟩,
    ⟨some 16, .mv (.t 5), none, [5]⟩,
    ⟨some 17, .call g_laws_szWorld F_laws_szWorld [(.S, (.t 15)), (.S, (.t 16))], none, [15, 16]⟩,
    ⟨some 5, .asg (.t 17), none, [17]⟩])
  (.seq (.seq (.reg 6 none [⟨some 18, .mv (.t 5), none, [5]⟩,
    ⟨some 19, .bin .lss .o (.t 18) (.k (.i .i64 0)), none, [18]⟩])
  (.cond (.t 19) (.seq (.reg 7 none [⟨some 4, .asg (.k (.b true)), none, [2, 3, 19]⟩])
  .ret) .sk))
  (.seq (.reg 8 (some [([2, 19, 20], [19, 20]), ([2, 20, 21], [20, 21]), ([3, 22], [22]), ([3, 22, 23], [22, 23]), ([21, 23, 24], [21, 23, 24]), ([6, 24], [6, 24])]) [⟨some 20, .ld (some 18) (.t 2), none, [19]⟩,
    ⟨some 21, .call g_laws_toWorld F_laws_toWorld [(.S, (.t 20))], none, [20]⟩,
    ⟨some 22, .ld (some 18) (.t 3), none, []⟩,
    ⟨some 23, .call g_laws_toWorld F_laws_toWorld [(.S, (.t 22))], none, [22]⟩,
    ⟨some 24, .call g_spec_WorldSame F_spec_WorldSame [(.S, (.t 21)), (.S, (.t 23))], none, [21, 23]⟩,
    ⟨some 6, .asg (.t 24), none, [24]⟩])
  (.seq (.reg 9 none [⟨some 25, .ld (some 18) (.t 2), none, []⟩,
    ⟨some 26, .call g_laws_toWorld F_laws_toWorld [(.S, (.t 25))], none, [25]⟩,
    ⟨some 7, .alloc [.l .y 7 [], .i .i64 0, .i .i64 0, .i .i64 0, .l .y 1 [], .i .i64 0, .i .i64 0, .i .i64 0, .i .i64 0, .i .i64 0, .b false, .l .y 5 [], .l .y 1 [], .l .y 3 [], .i .i64 0, .l .y 10 [], .l .y 11 [], .l .y 3 []], none, []⟩,
    ⟨none, .sto 18 true (.t 7) (.t 26), none, [26]⟩])
  (.seq (.reg 10 none [⟨some 27, .ld (some 18) (.t 3), none, []⟩,
    ⟨some 28, .call g_laws_toWorld F_laws_toWorld [(.S, (.t 27))], none, [27]⟩,
    ⟨some 8, .alloc [.l .y 7 [], .i .i64 0, .i .i64 0, .i .i64 0, .l .y 1 [], .i .i64 0, .i .i64 0, .i .i64 0, .i .i64 0, .i .i64 0, .b false, .l .y 5 [], .l .y 1 [], .l .y 3 [], .i .i64 0, .l .y 10 [], .l .y 11 [], .l .y 3 []], none, []⟩,
    ⟨none, .sto 18 true (.t 8) (.t 28), none, [28]⟩])
  (.seq (.reg 11 none [⟨some 29, .ld (some 18) (.t 7), none, []⟩,
    ⟨some 30, .ld (some 18) (.t 8), none, []⟩,
    ⟨some 31, .call g_impl_WorldSame F_impl_WorldSame [(.S, (.t 29)), (.S, (.t 30))], none, [29, 30]⟩,
    ⟨some 9, .asg (.t 31), none, [31]⟩])
  (.seq (.seq (.reg 12 none [⟨some 32, .mv (.t 9), none, [9]⟩,
    ⟨some 33, .mv (.t 6), none, [6]⟩,
    ⟨some 34, .bin .neq .b (.t 32) (.t 33), none, [32, 33]⟩])
  (.cond (.t 34) (.seq (.reg 13 none [⟨some 4, .asg (.k (.b false)), none, [2, 3, 7, 8, 34]⟩])
  .ret) .sk))
  (.seq (.seq (.reg 14 (some [([7, 34, 35], [34, 35]), ([2, 36], [36]), ([2, 36, 37], [2, 36, 37]), ([7, 35, 37, 38], [7, 35, 37, 38]), ([38, 39], [38, 39])]) [⟨some 35, .ld (some 18) (.t 7), none, [34]⟩,
    ⟨some 36, .ld (some 18) (.t 2), none, []⟩,
    ⟨some 37, .call g_laws_toWorld F_laws_toWorld [(.S, (.t 36))], none, [2, 36]⟩,
    ⟨some 38, .call g_laws_eqWorld F_laws_eqWorld [(.S, (.t 35)), (.S, (.t 37))], none, [7, 35, 37]⟩,
    ⟨some 39, .un .not (.t 38), none, [38]⟩])
  (.cond (.t 39) (.seq (.reg 15 none [⟨some 4, .asg (.k (.b false)), none, [3, 8, 39]⟩])
  .ret) .sk))
  (.seq (.seq (.reg 16 (some [([8, 39, 40], [39, 40]), ([3, 41], [41]), ([3, 41, 42], [3, 41, 42]), ([8, 40, 42, 43], [8, 40, 42, 43]), ([43, 44], [43, 44])]) [⟨some 40, .ld (some 18) (.t 8), none, [39]⟩,
    ⟨some 41, .ld (some 18) (.t 3), none, []⟩,
    ⟨some 42, .call g_laws_toWorld F_laws_toWorld [(.S, (.t 41))], none, [3, 41]⟩,
    ⟨some 43, .call g_laws_eqWorld F_laws_eqWorld [(.S, (.t 40)), (.S, (.t 42))], none, [8, 40, 42]⟩,
    ⟨some 44, .un .not (.t 43), none, [43]⟩])
  (.cond (.t 44) (.seq (.reg 17 none [⟨some 4, .asg (.k (.b false)), none, [44]⟩])
  .ret) .sk))
  (.seq (.reg 18 none [⟨some 4, .asg (.k (.b true)), none, [44]⟩])
  .ret))))))))))))))
  res := [.tmp 4]
  ptrs := []
  ar := 2
noncomputable def F_laws_FnExactWorldSame : Fun := lock (denF m_laws_FnExactWorldSame)
end
end Go.Wr

