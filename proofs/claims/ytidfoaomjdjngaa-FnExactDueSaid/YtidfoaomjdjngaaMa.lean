/-
  What is proved: the law FnExactDue returns true for every input and leaves its arguments as they were. No condition.
-/
import Derived.Test.YtidfoaomjdjngaaRc
set_option linter.unusedVariables false
set_option linter.unusedSimpArgs false
namespace Go.Wr
noncomputable section
abbrev g_laws_szIntS : Nat := 0
def m_laws_szIntS : MFun where
  code := (.seq (.reg 0 none [⟨some 4, .asg (.k (.i .i64 0)), none, [4]⟩])
  (.seq (.reg 1 none [⟨some 5, .mv (.t 1), none, [1]⟩,
    ⟨some 6, .mv (.t 0), none, [0]⟩,
    ⟨some 7, .len false (.t 6), none, [6]⟩,
    ⟨some 8, .bin .sub .o (.t 5) (.t 7), none, [5, 7]⟩,
    ⟨some 1, .asg (.t 8), none, [8]⟩])
  (.seq (.seq (.reg 2 none [⟨some 9, .mv (.t 1), none, []⟩,
    ⟨some 10, .bin .lss .o (.t 9) (.k (.i .i64 0)), none, [9]⟩])
  (.cond (.t 10) (.seq (.reg 3 none [⟨some 4, .asg (.k (.i .i64 (-1))), none, [1, 10]⟩])
  .ret) .sk))
  (.seq (.reg 4 none [⟨some 11, .mv (.t 1), none, [1, 10]⟩,
    ⟨some 4, .asg (.t 11), none, [11]⟩])
  .ret))))
  res := [.tmp 4]
  ptrs := []
  ar := 2
noncomputable def F_laws_szIntS : Fun := lock (denF m_laws_szIntS)
abbrev g_laws_szConf : Nat := 1
def m_laws_szConf : MFun where
  code := (.seq (.reg 0 none [⟨some 2, .box true (.t 0), none, [0]⟩,
    ⟨some 4, .asg (.k (.i .i64 0)), none, [4]⟩])
  (.seq (.reg 1 none [⟨some 5, .fa (.t 2) 3, none, []⟩,
    ⟨some 6, .ld none (.t 5), none, [5]⟩,
    ⟨some 7, .mv (.t 1), none, [1]⟩,
    ⟨some 8, .call g_laws_szIntS F_laws_szIntS [(.S, (.t 6)), (.S, (.t 7))], none, [2, 6, 7]⟩,
    ⟨some 1, .asg (.t 8), none, [8]⟩])
  (.seq (.seq (.reg 2 none [⟨some 9, .mv (.t 1), none, []⟩,
    ⟨some 10, .bin .lss .o (.t 9) (.k (.i .i64 0)), none, [9]⟩])
  (.cond (.t 10) (.seq (.reg 3 none [⟨some 4, .asg (.k (.i .i64 (-1))), none, [1, 10]⟩])
  .ret) .sk))
  (.seq (.reg 4 none [⟨some 11, .mv (.t 1), none, [1, 10]⟩,
    ⟨some 4, .asg (.t 11), none, [11]⟩])
  .ret))))
  res := [.tmp 4]
  ptrs := []
  ar := 2
noncomputable def F_laws_szConf : Fun := lock (denF m_laws_szConf)
abbrev g_spec_l1In : Nat := 2
def m_spec_l1In : MFun where
  code := (.seq (.reg 0 none [⟨some 6, .asg (.k (.b false)), none, [6]⟩])
  (.seq (.reg 1 none [⟨some 7, .mv (.t 0), none, []⟩,
    ⟨some 8, .mv (.t 1), none, [1]⟩,
    ⟨some 9, .bin .geq .o (.t 7) (.t 8), none, [7, 8]⟩,
    ⟨some 10, .mv (.t 9), none, [9]⟩,
    ⟨some 11, .mv (.t 0), some (10, true), [0]⟩,
    ⟨some 12, .mv (.t 2), some (10, true), [2]⟩,
    ⟨some 13, .bin .leq .o (.t 11) (.t 12), some (10, true), [11, 12]⟩,
    ⟨some 14, .pick (.t 10) (.t 13) (.k (.b false)), none, [10, 13]⟩,
    ⟨some 6, .asg (.t 14), none, [14]⟩])
  .ret))
  res := [.tmp 6]
  ptrs := []
  ar := 3
noncomputable def F_spec_l1In : Fun := lock (denF m_spec_l1In)
abbrev g_spec_l11Nums : Nat := 3
def m_spec_l11Nums : MFun where
  code := (.seq (.reg 0 none [⟨some 6, .asg (.k (.b false)), none, [6]⟩])
  (.seq (.seq (.reg 1 none [⟨some 8, .mv (.t 0), none, []⟩,
    ⟨some 9, .len false (.t 8), none, [8]⟩,
    ⟨some 10, .bin .neq .o (.t 9) (.k (.i .i64 3)), none, [9]⟩])
  (.cond (.t 10) (.seq (.reg 2 none [⟨some 6, .asg (.k (.b false)), none, [0, 1, 2, 10]⟩])
  .ret) .sk))
  (.seq (.seq (.reg 3 none [⟨some 7, .asg (.k (.i .i64 0)), none, [10]⟩])
  (.blk 0 (.loop [0, 1, 2, 7] (.seq (.seq (.reg 4 none [⟨some 11, .mv (.t 7), none, []⟩,
    ⟨some 12, .mv (.t 0), none, []⟩,
    ⟨some 13, .len false (.t 12), none, [12]⟩,
    ⟨some 14, .bin .lss .o (.t 11) (.t 13), none, [11, 13]⟩])
  (.cond (.t 14) .sk (.exit 0)))
  (.seq (.blk 1 (.seq (.reg 6 none [⟨some 17, .mv (.t 0), none, [14]⟩,
    ⟨some 18, .mv (.t 7), none, []⟩,
    ⟨some 19, .ia 1 (.t 17) (.t 18), none, [17, 18]⟩,
    ⟨some 20, .ld none (.t 19), none, [19]⟩,
    ⟨some 21, .mv (.t 1), none, []⟩,
    ⟨some 22, .mv (.t 2), none, []⟩,
    ⟨some 23, .call g_spec_l1In F_spec_l1In [(.S, (.t 20)), (.S, (.t 21)), (.S, (.t 22))], none, [20, 21, 22]⟩,
    ⟨some 24, .un .not (.t 23), none, [23]⟩])
  (.cond (.t 24) (.seq (.reg 7 none [⟨some 6, .asg (.k (.b false)), none, [0, 1, 2, 7, 24]⟩])
  .ret) .sk)))
  (.reg 5 none [⟨some 15, .mv (.t 7), none, [7, 24]⟩,
    ⟨some 16, .bin .add .o (.t 15) (.k (.i .i64 1)), none, [15]⟩,
    ⟨some 7, .asg (.t 16), none, [16]⟩]))))))
  (.seq (.reg 8 none [⟨some 6, .asg (.k (.b true)), none, [0, 1, 2, 7, 14]⟩])
  .ret))))
  res := [.tmp 6]
  ptrs := []
  ar := 3
noncomputable def F_spec_l11Nums : Fun := lock (denF m_spec_l11Nums)
abbrev g_spec_ConfOk : Nat := 4
def m_spec_ConfOk : MFun where
  code := (.seq (.reg 0 none [⟨some 1, .box true (.t 0), none, [0]⟩,
    ⟨some 2, .asg (.k (.b false)), none, [2]⟩])
  (.seq (.reg 1 none [⟨some 3, .fa (.t 1) 0, none, []⟩,
    ⟨some 4, .ld none (.t 3), none, [3]⟩,
    ⟨some 5, .call g_spec_l1In F_spec_l1In [(.S, (.t 4)), (.S, (.k (.i .i64 1))), (.S, (.k (.i .i64 8)))], none, [4]⟩,
    ⟨some 6, .mv (.t 5), none, [5]⟩,
    ⟨some 7, .fa (.t 1) 1, some (6, true), []⟩,
    ⟨some 8, .ld none (.t 7), some (6, true), [7]⟩,
    ⟨some 9, .call g_spec_l1In F_spec_l1In [(.S, (.t 8)), (.S, (.k (.i .i64 1))), (.S, (.k (.i .i64 60)))], some (6, true), [8]⟩,
    ⟨some 10, .pick (.t 6) (.t 9) (.k (.b false)), none, [6, 9]⟩,
    ⟨some 11, .mv (.t 10), none, [10]⟩,
    ⟨some 12, .fa (.t 1) 2, some (11, true), []⟩,
    ⟨some 13, .ld none (.t 12), some (11, true), [12]⟩,
    ⟨some 14, .call g_spec_l1In F_spec_l1In [(.S, (.t 13)), (.S, (.k (.i .i64 1))), (.S, (.k (.i .i64 10)))], some (11, true), [13]⟩,
    ⟨some 15, .pick (.t 11) (.t 14) (.k (.b false)), none, [11, 14]⟩,
    ⟨some 16, .mv (.t 15), none, [15]⟩,
    ⟨some 17, .fa (.t 1) 3, some (16, true), []⟩,
    ⟨some 18, .ld none (.t 17), some (16, true), [17]⟩,
    ⟨some 19, .call g_spec_l11Nums F_spec_l11Nums [(.S, (.t 18)), (.S, (.k (.i .i64 1))), (.S, (.k (.i .i64 4)))], some (16, true), [18]⟩,
    ⟨some 20, .pick (.t 16) (.t 19) (.k (.b false)), none, [16, 19]⟩,
    ⟨some 21, .mv (.t 20), none, [20]⟩,
    ⟨some 22, .fa (.t 1) 4, some (21, true), []⟩,
    ⟨some 23, .ld none (.t 22), some (21, true), [22]⟩,
    ⟨some 24, .call g_spec_l1In F_spec_l1In [(.S, (.t 23)), (.S, (.k (.i .i64 1))), (.S, (.k (.i .i64 100)))], some (21, true), [23]⟩,
    ⟨some 25, .pick (.t 21) (.t 24) (.k (.b false)), none, [21, 24]⟩,
    ⟨some 26, .mv (.t 25), none, [25]⟩,
    ⟨some 27, .fa (.t 1) 5, some (26, true), []⟩,
    ⟨some 28, .ld none (.t 27), some (26, true), [27]⟩,
    ⟨some 29, .call g_spec_l1In F_spec_l1In [(.S, (.t 28)), (.S, (.k (.i .i64 1))), (.S, (.k (.i .i64 20)))], some (26, true), [28]⟩,
    ⟨some 30, .pick (.t 26) (.t 29) (.k (.b false)), none, [26, 29]⟩,
    ⟨some 31, .mv (.t 30), none, [30]⟩,
    ⟨some 32, .fa (.t 1) 6, some (31, true), []⟩,
    ⟨some 33, .ld none (.t 32), some (31, true), [32]⟩,
    ⟨some 34, .call g_spec_l1In F_spec_l1In [(.S, (.t 33)), (.S, (.k (.i .i64 0))), (.S, (.k (.i .i64 20)))], some (31, true), [33]⟩,
    ⟨some 35, .pick (.t 31) (.t 34) (.k (.b false)), none, [31, 34]⟩,
    ⟨some 36, .mv (.t 35), none, [35]⟩,
    ⟨some 37, .fa (.t 1) 7, some (36, true), []⟩,
    ⟨some 38, .ld none (.t 37), some (36, true), [1, 37]⟩,
    ⟨some 39, .call g_spec_l1In F_spec_l1In [(.S, (.t 38)), (.S, (.k (.i .i64 1))), (.S, (.k (.i .i64 50)))], some (36, true), [38]⟩,
    ⟨some 40, .pick (.t 36) (.t 39) (.k (.b false)), none, [36, 39]⟩,
    ⟨some 2, .asg (.t 40), none, [40]⟩])
  .ret))
  res := [.tmp 2]
  ptrs := []
  ar := 1
noncomputable def F_spec_ConfOk : Fun := lock (denF m_spec_ConfOk)
abbrev g_spec_Due : Nat := 5
def m_spec_Due : MFun where
  code := (.seq (.reg 0 none [⟨some 2, .box true (.t 0), none, [0]⟩,
    ⟨some 4, .asg (.k (.i .i64 0)), none, [4]⟩])
  (.seq (.seq (.reg 1 none [⟨some 5, .ld (some 8) (.t 2), none, []⟩,
    ⟨some 6, .call g_spec_ConfOk F_spec_ConfOk [(.S, (.t 5))], none, [5]⟩,
    ⟨some 7, .un .not (.t 6), none, [6]⟩,
    ⟨some 8, .mv (.t 7), none, [7]⟩,
    ⟨some 9, .mv (.t 1), some (8, false), []⟩,
    ⟨some 10, .call g_spec_l1In F_spec_l1In [(.S, (.t 9)), (.S, (.k (.i .i64 0))), (.S, (.k (.i .i64 20)))], some (8, false), [9]⟩,
    ⟨some 11, .un .not (.t 10), some (8, false), [10]⟩,
    ⟨some 12, .pick (.t 8) (.k (.b true)) (.t 11), none, [8, 11]⟩])
  (.cond (.t 12) (.seq (.reg 2 none [⟨some 4, .asg (.k (.i .i64 (-1))), none, [1, 2, 12]⟩])
  .ret) .sk))
  (.seq (.reg 3 none [⟨some 13, .fa (.t 2) 5, none, [12]⟩,
    ⟨some 14, .ld none (.t 13), none, [13]⟩,
    ⟨some 15, .mv (.t 1), none, [1]⟩,
    ⟨some 16, .bin .add .o (.t 15) (.k (.i .i64 1)), none, [15]⟩,
    ⟨some 17, .bin .mul .o (.t 14) (.t 16), none, [14, 16]⟩,
    ⟨some 18, .fa (.t 2) 6, none, []⟩,
    ⟨some 19, .ld none (.t 18), none, [2, 18]⟩,
    ⟨some 20, .bin .add .o (.t 17) (.t 19), none, [17, 19]⟩,
    ⟨some 4, .asg (.t 20), none, [20]⟩])
  .ret)))
  res := [.tmp 4]
  ptrs := []
  ar := 2
noncomputable def F_spec_Due : Fun := lock (denF m_spec_Due)
abbrev g_laws_toIntS : Nat := 6
def m_laws_toIntS : MFun where
  code := (.seq (.reg 0 none [⟨some 2, .asg (.k (.l .y 1 [])), none, [2]⟩])
  (.seq (.reg 1 none [⟨some 5, .mv (.t 0), none, []⟩,
    ⟨some 6, .len false (.t 5), none, [5]⟩,
    ⟨some 7, .mks 1 false [.i .i64 0] (.t 6) (.t 6), none, [6]⟩,
    ⟨some 3, .asg (.t 7), none, []⟩])
  (.seq (.seq (.reg 2 none [⟨some 4, .asg (.k (.i .i64 0)), none, []⟩])
  (.blk 0 (.loop [0, 3, 4, 7] (.seq (.seq (.reg 3 none [⟨some 8, .mv (.t 4), none, []⟩,
    ⟨some 9, .mv (.t 0), none, []⟩,
    ⟨some 10, .len false (.t 9), none, [9]⟩,
    ⟨some 11, .bin .lss .o (.t 8) (.t 10), none, [8, 10]⟩])
  (.cond (.t 11) .sk (.exit 0)))
  (.seq (.blk 1 (.reg 5 none [⟨some 14, .mv (.t 3), none, [11]⟩,
    ⟨some 15, .mv (.t 4), none, []⟩,
    ⟨some 16, .mv (.t 0), none, []⟩,
    ⟨some 17, .mv (.t 4), none, []⟩,
    ⟨some 18, .ia 1 (.t 16) (.t 17), none, [16, 17]⟩,
    ⟨some 19, .ld none (.t 18), none, [18]⟩,
    ⟨some 20, .ia 1 (.t 14) (.t 15), none, [14, 15]⟩,
    ⟨none, .sto 1 true (.t 20) (.t 19), none, [19, 20]⟩]))
  (.reg 4 none [⟨some 12, .mv (.t 4), none, [4]⟩,
    ⟨some 13, .bin .add .o (.t 12) (.k (.i .i64 1)), none, [12]⟩,
    ⟨some 4, .asg (.t 13), none, [13]⟩]))))))
  (.seq (.reg 6 none [⟨some 21, .mv (.t 3), none, [0, 4, 11]⟩,
    ⟨some 2, .asg (.t 21), none, [21]⟩])
  .ret))))
  res := [.tmp 2]
  ptrs := []
  ar := 1
noncomputable def F_laws_toIntS : Fun := lock (denF m_laws_toIntS)
abbrev g_laws_toConf : Nat := 7
def m_laws_toConf : MFun where
  code := (.seq (.reg 0 none [⟨some 1, .box true (.t 0), none, [0]⟩,
    ⟨some 2, .alloc [.i .i64 0, .i .i64 0, .i .i64 0, .l .y 1 [], .i .i64 0, .i .i64 0, .i .i64 0, .i .i64 0], none, []⟩])
  (.seq (.reg 1 none [⟨some 3, .alloc [.i .i64 0, .i .i64 0, .i .i64 0, .l .y 1 [], .i .i64 0, .i .i64 0, .i .i64 0, .i .i64 0], none, []⟩])
  (.seq (.reg 2 none [⟨some 4, .fa (.t 1) 0, none, []⟩,
    ⟨some 5, .ld none (.t 4), none, [4]⟩,
    ⟨some 6, .fa (.t 3) 0, none, []⟩,
    ⟨none, .sto 1 true (.t 6) (.t 5), none, [5, 6]⟩])
  (.seq (.reg 3 none [⟨some 7, .fa (.t 1) 1, none, []⟩,
    ⟨some 8, .ld none (.t 7), none, [7]⟩,
    ⟨some 9, .fa (.t 3) 1, none, []⟩,
    ⟨none, .sto 1 true (.t 9) (.t 8), none, [8, 9]⟩])
  (.seq (.reg 4 none [⟨some 10, .fa (.t 1) 2, none, []⟩,
    ⟨some 11, .ld none (.t 10), none, [10]⟩,
    ⟨some 12, .fa (.t 3) 2, none, []⟩,
    ⟨none, .sto 1 true (.t 12) (.t 11), none, [11, 12]⟩])
  (.seq (.reg 5 none [⟨some 13, .fa (.t 1) 3, none, []⟩,
    ⟨some 14, .ld none (.t 13), none, [13]⟩,
    ⟨some 15, .call g_laws_toIntS F_laws_toIntS [(.S, (.t 14))], none, [14]⟩,
    ⟨some 16, .fa (.t 3) 3, none, []⟩,
    ⟨none, .sto 1 true (.t 16) (.t 15), none, [15, 16]⟩])
  (.seq (.reg 6 none [⟨some 17, .fa (.t 1) 4, none, []⟩,
    ⟨some 18, .ld none (.t 17), none, [17]⟩,
    ⟨some 19, .fa (.t 3) 4, none, []⟩,
    ⟨none, .sto 1 true (.t 19) (.t 18), none, [18, 19]⟩])
  (.seq (.reg 7 none [⟨some 20, .fa (.t 1) 5, none, []⟩,
    ⟨some 21, .ld none (.t 20), none, [20]⟩,
    ⟨some 22, .fa (.t 3) 5, none, []⟩,
    ⟨none, .sto 1 true (.t 22) (.t 21), none, [21, 22]⟩])
  (.seq (.reg 8 none [⟨some 23, .fa (.t 1) 6, none, []⟩,
    ⟨some 24, .ld none (.t 23), none, [23]⟩,
    ⟨some 25, .fa (.t 3) 6, none, []⟩,
    ⟨none, .sto 1 true (.t 25) (.t 24), none, [24, 25]⟩])
  (.seq (.reg 9 none [⟨some 26, .fa (.t 1) 7, none, []⟩,
    ⟨some 27, .ld none (.t 26), none, [1, 26]⟩,
    ⟨some 28, .fa (.t 3) 7, none, []⟩,
    ⟨none, .sto 1 true (.t 28) (.t 27), none, [27, 28]⟩])
  (.seq (.reg 10 none [⟨some 29, .ld (some 8) (.t 3), none, []⟩,
    ⟨none, .sto 8 true (.t 2) (.t 29), none, [3, 29]⟩])
  .ret)))))))))))
  res := [.cell 2 (some 8)]
  ptrs := []
  ar := 1
noncomputable def F_laws_toConf : Fun := lock (denF m_laws_toConf)
abbrev g_impl_within : Nat := 8
def m_impl_within : MFun where
  code := (.seq (.reg 0 none [⟨some 6, .asg (.k (.b false)), none, [6]⟩])
  (.seq (.reg 1 none [⟨some 7, .mv (.t 0), none, []⟩,
    ⟨some 8, .mv (.t 1), none, [1]⟩,
    ⟨some 9, .bin .geq .o (.t 7) (.t 8), none, [7, 8]⟩,
    ⟨some 10, .mv (.t 9), none, [9]⟩,
    ⟨some 11, .mv (.t 0), some (10, true), [0]⟩,
    ⟨some 12, .mv (.t 2), some (10, true), [2]⟩,
    ⟨some 13, .bin .leq .o (.t 11) (.t 12), some (10, true), [11, 12]⟩,
    ⟨some 14, .pick (.t 10) (.t 13) (.k (.b false)), none, [10, 13]⟩,
    ⟨some 6, .asg (.t 14), none, [14]⟩])
  .ret))
  res := [.tmp 6]
  ptrs := []
  ar := 3
noncomputable def F_impl_within : Fun := lock (denF m_impl_within)
abbrev g_impl_allWithin : Nat := 9
def m_impl_allWithin : MFun where
  code := (.seq (.reg 0 none [⟨some 8, .asg (.k (.b false)), none, [8]⟩])
  (.seq (.seq (.reg 1 none [⟨some 11, .mv (.t 0), none, []⟩,
    ⟨some 12, .len false (.t 11), none, []⟩,
    ⟨some 13, .mv (.k (.i .i64 0)), none, []⟩])
  (.blk 0 (.loop [0, 1, 2, 3, 11, 12, 13] (.seq (.reg 2 none [⟨some 14, .bin .lss .o (.t 13) (.t 12), none, []⟩])
  (.seq (.cond (.t 14) .sk (.exit 0))
  (.seq (.blk 1 (.seq (.reg 3 none [⟨some 15, .ia 1 (.t 11) (.t 13), none, [14]⟩,
    ⟨some 16, .ld none (.t 15), none, [15]⟩,
    ⟨some 10, .asg (.t 16), none, [16]⟩])
  (.seq (.reg 4 none [⟨some 17, .mv (.t 10), none, [10]⟩,
    ⟨some 18, .mv (.t 2), none, []⟩,
    ⟨some 19, .mv (.t 3), none, []⟩,
    ⟨some 20, .call g_impl_within F_impl_within [(.S, (.t 17)), (.S, (.t 18)), (.S, (.t 19))], none, [17, 18, 19]⟩,
    ⟨some 21, .un .not (.t 20), none, [20]⟩])
  (.cond (.t 21) (.seq (.reg 5 none [⟨some 8, .asg (.k (.b false)), none, [0, 1, 2, 3, 11, 12, 13, 21]⟩])
  .ret) .sk))))
  (.reg 6 none [⟨some 22, .bin .add .o (.t 13) (.k (.i .i64 1)), none, [13, 21]⟩,
    ⟨some 13, .mv (.t 22), none, [22]⟩])))))))
  (.seq (.reg 7 none [⟨some 23, .mv (.t 0), none, [0, 2, 3, 11, 12, 13, 14]⟩,
    ⟨some 24, .len false (.t 23), none, [23]⟩,
    ⟨some 25, .mv (.t 1), none, [1]⟩,
    ⟨some 26, .bin .eql .o (.t 24) (.t 25), none, [24, 25]⟩,
    ⟨some 8, .asg (.t 26), none, [26]⟩])
  .ret)))
  res := [.tmp 8]
  ptrs := []
  ar := 4
noncomputable def F_impl_allWithin : Fun := lock (denF m_impl_allWithin)
abbrev g_impl_ConfOk : Nat := 10
def m_impl_ConfOk : MFun where
  code := (.seq (.reg 0 none [⟨some 1, .box true (.t 0), none, [0]⟩,
    ⟨some 2, .asg (.k (.b false)), none, [2]⟩])
  (.seq (.reg 1 none [⟨some 3, .fa (.t 1) 0, none, []⟩,
    ⟨some 4, .ld none (.t 3), none, [3]⟩,
    ⟨some 5, .call g_impl_within F_impl_within [(.S, (.t 4)), (.S, (.k (.i .i64 1))), (.S, (.k (.i .i64 8)))], none, [4]⟩,
    ⟨some 6, .mv (.t 5), none, [5]⟩,
    ⟨some 7, .fa (.t 1) 1, some (6, true), []⟩,
    ⟨some 8, .ld none (.t 7), some (6, true), [7]⟩,
    ⟨some 9, .call g_impl_within F_impl_within [(.S, (.t 8)), (.S, (.k (.i .i64 1))), (.S, (.k (.i .i64 60)))], some (6, true), [8]⟩,
    ⟨some 10, .pick (.t 6) (.t 9) (.k (.b false)), none, [6, 9]⟩,
    ⟨some 11, .mv (.t 10), none, [10]⟩,
    ⟨some 12, .fa (.t 1) 2, some (11, true), []⟩,
    ⟨some 13, .ld none (.t 12), some (11, true), [12]⟩,
    ⟨some 14, .call g_impl_within F_impl_within [(.S, (.t 13)), (.S, (.k (.i .i64 1))), (.S, (.k (.i .i64 10)))], some (11, true), [13]⟩,
    ⟨some 15, .pick (.t 11) (.t 14) (.k (.b false)), none, [11, 14]⟩,
    ⟨some 16, .mv (.t 15), none, [15]⟩,
    ⟨some 17, .fa (.t 1) 3, some (16, true), []⟩,
    ⟨some 18, .ld none (.t 17), some (16, true), [17]⟩,
    ⟨some 19, .call g_impl_allWithin F_impl_allWithin [(.S, (.t 18)), (.S, (.k (.i .i64 3))), (.S, (.k (.i .i64 1))), (.S, (.k (.i .i64 4)))], some (16, true), [18]⟩,
    ⟨some 20, .pick (.t 16) (.t 19) (.k (.b false)), none, [16, 19]⟩,
    ⟨some 21, .mv (.t 20), none, [20]⟩,
    ⟨some 22, .fa (.t 1) 4, some (21, true), []⟩,
    ⟨some 23, .ld none (.t 22), some (21, true), [22]⟩,
    ⟨some 24, .call g_impl_within F_impl_within [(.S, (.t 23)), (.S, (.k (.i .i64 1))), (.S, (.k (.i .i64 100)))], some (21, true), [23]⟩,
    ⟨some 25, .pick (.t 21) (.t 24) (.k (.b false)), none, [21, 24]⟩,
    ⟨some 26, .mv (.t 25), none, [25]⟩,
    ⟨some 27, .fa (.t 1) 5, some (26, true), []⟩,
    ⟨some 28, .ld none (.t 27), some (26, true), [27]⟩,
    ⟨some 29, .call g_impl_within F_impl_within [(.S, (.t 28)), (.S, (.k (.i .i64 1))), (.S, (.k (.i .i64 20)))], some (26, true), [28]⟩,
    ⟨some 30, .pick (.t 26) (.t 29) (.k (.b false)), none, [26, 29]⟩,
    ⟨some 31, .mv (.t 30), none, [30]⟩,
    ⟨some 32, .fa (.t 1) 6, some (31, true), []⟩,
    ⟨some 33, .ld none (.t 32), some (31, true), [32]⟩,
    ⟨some 34, .call g_impl_within F_impl_within [(.S, (.t 33)), (.S, (.k (.i .i64 0))), (.S, (.k (.i .i64 20)))], some (31, true), [33]⟩,
    ⟨some 35, .pick (.t 31) (.t 34) (.k (.b false)), none, [31, 34]⟩,
    ⟨some 36, .mv (.t 35), none, [35]⟩,
    ⟨some 37, .fa (.t 1) 7, some (36, true), []⟩,
    ⟨some 38, .ld none (.t 37), some (36, true), [1, 37]⟩,
    ⟨some 39, .call g_impl_within F_impl_within [(.S, (.t 38)), (.S, (.k (.i .i64 1))), (.S, (.k (.i .i64 50)))], some (36, true), [38]⟩,
    ⟨some 40, .pick (.t 36) (.t 39) (.k (.b false)), none, [36, 39]⟩,
    ⟨some 2, .asg (.t 40), none, [40]⟩])
  .ret))
  res := [.tmp 2]
  ptrs := []
  ar := 1
noncomputable def F_impl_ConfOk : Fun := lock (denF m_impl_ConfOk)
abbrev g_impl_Due : Nat := 11
def m_impl_Due : MFun where
  code := (.seq (.reg 0 none [⟨some 2, .box true (.t 0), none, [0]⟩,
    ⟨some 4, .asg (.k (.i .i64 0)), none, [4]⟩])
  (.seq (.seq (.reg 1 none [⟨some 5, .ld (some 8) (.t 2), none, []⟩,
    ⟨some 6, .call g_impl_ConfOk F_impl_ConfOk [(.S, (.t 5))], none, [5]⟩,
    ⟨some 7, .un .not (.t 6), none, [6]⟩,
    ⟨some 8, .mv (.t 7), none, [7]⟩,
    ⟨some 9, .mv (.t 1), some (8, false), []⟩,
    ⟨some 10, .call g_impl_within F_impl_within [(.S, (.t 9)), (.S, (.k (.i .i64 0))), (.S, (.k (.i .i64 20)))], some (8, false), [9]⟩,
    ⟨some 11, .un .not (.t 10), some (8, false), [10]⟩,
    ⟨some 12, .pick (.t 8) (.k (.b true)) (.t 11), none, [8, 11]⟩])
  (.cond (.t 12) (.seq (.reg 2 none [⟨some 4, .asg (.k (.i .i64 (-1))), none, [1, 2, 12]⟩])
  .ret) .sk))
  (.seq (.reg 3 none [⟨some 13, .fa (.t 2) 5, none, [12]⟩,
    ⟨some 14, .ld none (.t 13), none, [13]⟩,
    ⟨some 15, .mv (.t 1), none, [1]⟩,
    ⟨some 16, .bin .add .o (.t 15) (.k (.i .i64 1)), none, [15]⟩,
    ⟨some 17, .bin .mul .o (.t 14) (.t 16), none, [14, 16]⟩,
    ⟨some 18, .fa (.t 2) 6, none, []⟩,
    ⟨some 19, .ld none (.t 18), none, [2, 18]⟩,
    ⟨some 20, .bin .add .o (.t 17) (.t 19), none, [17, 19]⟩,
    ⟨some 4, .asg (.t 20), none, [20]⟩])
  .ret)))
  res := [.tmp 4]
  ptrs := []
  ar := 2
noncomputable def F_impl_Due : Fun := lock (denF m_impl_Due)
abbrev g_laws_eqIntS : Nat := 12
def m_laws_eqIntS : MFun where
  code := (.seq (.reg 0 none [⟨some 4, .asg (.k (.b false)), none, [4]⟩])
  (.seq (.seq (.reg 1 none [⟨some 6, .mv (.t 0), none, []⟩,
    ⟨some 7, .len false (.t 6), none, [6]⟩,
    ⟨some 8, .mv (.t 1), none, []⟩,
    ⟨some 9, .len false (.t 8), none, [8]⟩,
    ⟨some 10, .bin .neq .o (.t 7) (.t 9), none, [7, 9]⟩])
  (.cond (.t 10) (.seq (.reg 2 none [⟨some 4, .asg (.k (.b false)), none, [0, 1, 10]⟩])
  .ret) .sk))
  (.seq (.seq (.reg 3 none [⟨some 5, .asg (.k (.i .i64 0)), none, [10]⟩])
  (.blk 0 (.loop [0, 1, 5] (.seq (.seq (.reg 4 none [⟨some 11, .mv (.t 5), none, []⟩,
    ⟨some 12, .mv (.t 0), none, []⟩,
    ⟨some 13, .len false (.t 12), none, [12]⟩,
    ⟨some 14, .bin .lss .o (.t 11) (.t 13), none, [11, 13]⟩])
  (.cond (.t 14) .sk (.exit 0)))
  (.seq (.blk 1 (.seq (.reg 6 (some [([0, 14, 17], [14, 17]), ([5, 18], [18]), ([17, 18, 19], [17, 18, 19]), ([19, 20], [19, 20]), ([1, 21], [21]), ([5, 22], [22]), ([21, 22, 23], [21, 22, 23]), ([23, 24], [23, 24]), ([20, 24, 25], [20, 24, 25])]) [⟨some 17, .mv (.t 0), none, [14]⟩,
    ⟨some 18, .mv (.t 5), none, []⟩,
    ⟨some 19, .ia 1 (.t 17) (.t 18), none, [17, 18]⟩,
    ⟨some 20, .ld none (.t 19), none, [19]⟩,
    ⟨some 21, .mv (.t 1), none, []⟩,
    ⟨some 22, .mv (.t 5), none, []⟩,
    ⟨some 23, .ia 1 (.t 21) (.t 22), none, [21, 22]⟩,
    ⟨some 24, .ld none (.t 23), none, [23]⟩,
    ⟨some 25, .bin .neq .o (.t 20) (.t 24), none, [20, 24]⟩])
  (.cond (.t 25) (.seq (.reg 7 none [⟨some 4, .asg (.k (.b false)), none, [0, 1, 5, 25]⟩])
  .ret) .sk)))
  (.reg 5 none [⟨some 15, .mv (.t 5), none, [5, 25]⟩,
    ⟨some 16, .bin .add .o (.t 15) (.k (.i .i64 1)), none, [15]⟩,
    ⟨some 5, .asg (.t 16), none, [16]⟩]))))))
  (.seq (.reg 8 none [⟨some 4, .asg (.k (.b true)), none, [0, 1, 5, 14]⟩])
  .ret))))
  res := [.tmp 4]
  ptrs := []
  ar := 2
noncomputable def F_laws_eqIntS : Fun := lock (denF m_laws_eqIntS)
abbrev g_laws_eqConf : Nat := 13
def m_laws_eqConf : MFun where
  code := (.seq (.reg 0 none [⟨some 2, .box true (.t 0), none, [0]⟩,
    ⟨some 3, .box true (.t 1), none, [1]⟩,
    ⟨some 4, .asg (.k (.b false)), none, [4]⟩])
  (.seq (.seq (.reg 1 none [⟨some 5, .fa (.t 2) 0, none, []⟩,
    ⟨some 6, .ld none (.t 5), none, [5]⟩,
    ⟨some 7, .fa (.t 3) 0, none, []⟩,
    ⟨some 8, .ld none (.t 7), none, [7]⟩,
    ⟨some 9, .bin .neq .o (.t 6) (.t 8), none, [6, 8]⟩])
  (.cond (.t 9) (.seq (.reg 2 none [⟨some 4, .asg (.k (.b false)), none, [2, 3, 9]⟩])
  .ret) .sk))
  (.seq (.seq (.reg 3 none [⟨some 10, .fa (.t 2) 1, none, [9]⟩,
    ⟨some 11, .ld none (.t 10), none, [10]⟩,
    ⟨some 12, .fa (.t 3) 1, none, []⟩,
    ⟨some 13, .ld none (.t 12), none, [12]⟩,
    ⟨some 14, .bin .neq .o (.t 11) (.t 13), none, [11, 13]⟩])
  (.cond (.t 14) (.seq (.reg 4 none [⟨some 4, .asg (.k (.b false)), none, [2, 3, 14]⟩])
  .ret) .sk))
  (.seq (.seq (.reg 5 none [⟨some 15, .fa (.t 2) 2, none, [14]⟩,
    ⟨some 16, .ld none (.t 15), none, [15]⟩,
    ⟨some 17, .fa (.t 3) 2, none, []⟩,
    ⟨some 18, .ld none (.t 17), none, [17]⟩,
    ⟨some 19, .bin .neq .o (.t 16) (.t 18), none, [16, 18]⟩])
  (.cond (.t 19) (.seq (.reg 6 none [⟨some 4, .asg (.k (.b false)), none, [2, 3, 19]⟩])
  .ret) .sk))
  (.seq (.seq (.reg 7 none [⟨some 20, .fa (.t 2) 3, none, [19]⟩,
    ⟨some 21, .ld none (.t 20), none, [20]⟩,
    ⟨some 22, .fa (.t 3) 3, none, []⟩,
    ⟨some 23, .ld none (.t 22), none, [22]⟩,
    ⟨some 24, .call g_laws_eqIntS F_laws_eqIntS [(.S, (.t 21)), (.S, (.t 23))], none, [21, 23]⟩,
    ⟨some 25, .un .not (.t 24), none, [24]⟩])
  (.cond (.t 25) (.seq (.reg 8 none [⟨some 4, .asg (.k (.b false)), none, [2, 3, 25]⟩])
  .ret) .sk))
  (.seq (.seq (.reg 9 none [⟨some 26, .fa (.t 2) 4, none, [25]⟩,
    ⟨some 27, .ld none (.t 26), none, [26]⟩,
    ⟨some 28, .fa (.t 3) 4, none, []⟩,
    ⟨some 29, .ld none (.t 28), none, [28]⟩,
    ⟨some 30, .bin .neq .o (.t 27) (.t 29), none, [27, 29]⟩])
  (.cond (.t 30) (.seq (.reg 10 none [⟨some 4, .asg (.k (.b false)), none, [2, 3, 30]⟩])
  .ret) .sk))
  (.seq (.seq (.reg 11 none [⟨some 31, .fa (.t 2) 5, none, [30]⟩,
    ⟨some 32, .ld none (.t 31), none, [31]⟩,
    ⟨some 33, .fa (.t 3) 5, none, []⟩,
    ⟨some 34, .ld none (.t 33), none, [33]⟩,
    ⟨some 35, .bin .neq .o (.t 32) (.t 34), none, [32, 34]⟩])
  (.cond (.t 35) (.seq (.reg 12 none [⟨some 4, .asg (.k (.b false)), none, [2, 3, 35]⟩])
  .ret) .sk))
  (.seq (.seq (.reg 13 none [⟨some 36, .fa (.t 2) 6, none, [35]⟩,
    ⟨some 37, .ld none (.t 36), none, [36]⟩,
    ⟨some 38, .fa (.t 3) 6, none, []⟩,
    ⟨some 39, .ld none (.t 38), none, [38]⟩,
    ⟨some 40, .bin .neq .o (.t 37) (.t 39), none, [37, 39]⟩])
  (.cond (.t 40) (.seq (.reg 14 none [⟨some 4, .asg (.k (.b false)), none, [2, 3, 40]⟩])
  .ret) .sk))
  (.seq (.seq (.reg 15 none [⟨some 41, .fa (.t 2) 7, none, [40]⟩,
    ⟨some 42, .ld none (.t 41), none, [2, 41]⟩,
    ⟨some 43, .fa (.t 3) 7, none, []⟩,
    ⟨some 44, .ld none (.t 43), none, [3, 43]⟩,
    ⟨some 45, .bin .neq .o (.t 42) (.t 44), none, [42, 44]⟩])
  (.cond (.t 45) (.seq (.reg 16 none [⟨some 4, .asg (.k (.b false)), none, [45]⟩])
  .ret) .sk))
  (.seq (.reg 17 none [⟨some 4, .asg (.k (.b true)), none, [45]⟩])
  .ret))))))))))
  res := [.tmp 4]
  ptrs := []
  ar := 2
noncomputable def F_laws_eqConf : Fun := lock (denF m_laws_eqConf)
abbrev g_laws_FnExactDue : Nat := 14
def m_laws_FnExactDue : MFun where
  code := (.seq (.reg 0 none [⟨some 2, .box true (.t 0), none, [0]⟩,
    ⟨some 4, .asg (.k (.b false)), none, [4]⟩])
  (.seq (.reg 1 none [⟨some 5, .asg (.k (.i .i64 1048576)), none, []⟩])
  (.seq (.reg 2 none [⟨some 9, .ld (some 8) (.t 2), none, []⟩,
    ⟨some 10, .mv (.t 5), none, [5]⟩,
    ⟨some 11, .call g_laws_szConf F_laws_szConf [(.S, (.t 9)), (.S, (.t 10))], none, [9, 10]⟩,
    ⟨some 5, .asg (.t 11), none, [11]⟩])
  (.seq (.seq (.reg 3 none [⟨some 12, .mv (.t 5), none, [5]⟩,
    ⟨some 13, .bin .lss .o (.t 12) (.k (.i .i64 0)), none, [12]⟩])
  (.cond (.t 13) (.seq (.reg 4 none [⟨some 4, .asg (.k (.b true)), none, [1, 2, 13]⟩])
  .ret) .sk))
  (.seq (.reg 5 none [⟨some 14, .ld (some 8) (.t 2), none, [13]⟩,
    ⟨some 15, .call g_laws_toConf F_laws_toConf [(.S, (.t 14))], none, [14]⟩,
    ⟨some 16, .mv (.t 1), none, []⟩,
    ⟨some 17, .call g_spec_Due F_spec_Due [(.S, (.t 15)), (.S, (.t 16))], none, [15, 16]⟩,
    ⟨some 6, .asg (.t 17), none, [17]⟩])
  (.seq (.reg 6 none [⟨some 18, .ld (some 8) (.t 2), none, []⟩,
    ⟨some 19, .call g_laws_toConf F_laws_toConf [(.S, (.t 18))], none, [18]⟩,
    ⟨some 7, .alloc [.i .i64 0, .i .i64 0, .i .i64 0, .l .y 1 [], .i .i64 0, .i .i64 0, .i .i64 0, .i .i64 0], none, []⟩,
    ⟨none, .sto 8 true (.t 7) (.t 19), none, [19]⟩])
  (.seq (.reg 7 none [⟨some 20, .ld (some 8) (.t 7), none, []⟩,
    ⟨some 21, .mv (.t 1), none, [1]⟩,
    ⟨some 22, .call g_impl_Due F_impl_Due [(.S, (.t 20)), (.S, (.t 21))], none, [20, 21]⟩,
    ⟨some 8, .asg (.t 22), none, [22]⟩])
  (.seq (.seq (.reg 8 none [⟨some 23, .mv (.t 8), none, [8]⟩,
    ⟨some 24, .mv (.t 6), none, [6]⟩,
    ⟨some 25, .bin .neq .o (.t 23) (.t 24), none, [23, 24]⟩])
  (.cond (.t 25) (.seq (.reg 9 none [⟨some 4, .asg (.k (.b false)), none, [2, 7, 25]⟩])
  .ret) .sk))
  (.seq (.seq (.reg 10 (some [([7, 25, 26], [25, 26]), ([2, 27], [27]), ([2, 27, 28], [2, 27, 28]), ([7, 26, 28, 29], [7, 26, 28, 29]), ([29, 30], [29, 30])]) [⟨some 26, .ld (some 8) (.t 7), none, [25]⟩,
    ⟨some 27, .ld (some 8) (.t 2), none, []⟩,
    ⟨some 28, .call g_laws_toConf F_laws_toConf [(.S, (.t 27))], none, [2, 27]⟩,
    ⟨some 29, .call g_laws_eqConf F_laws_eqConf [(.S, (.t 26)), (.S, (.t 28))], none, [7, 26, 28]⟩,
    ⟨some 30, .un .not (.t 29), none, [29]⟩])
  (.cond (.t 30) (.seq (.reg 11 none [⟨some 4, .asg (.k (.b false)), none, [30]⟩])
  .ret) .sk))
  (.seq (.reg 12 none [⟨some 4, .asg (.k (.b true)), none, [30]⟩])
  .ret))))))))))
  res := [.tmp 4]
  ptrs := []
  ar := 2
noncomputable def F_laws_FnExactDue : Fun := lock (denF m_laws_FnExactDue)
end
end Go.Wr

