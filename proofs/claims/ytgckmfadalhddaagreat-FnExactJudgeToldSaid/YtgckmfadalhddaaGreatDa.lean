/-
  What is proved: the law FnExactJudgeTold returns true for every input and leaves its arguments as they were. No condition.
-/
import Derived.Test.YtgckmfadalhddaaGreatCa
import Derived.Test.YtgckmfadalhddaaGreatQd
import Derived.Test.YtgckmfadalhddaaGreatRc
import Derived.Test.YtgckmfadalhddaaGreatRows
import Derived.Test.YtgckmfadalhddaaGreatEa
import Derived.Test.YtgckmfadalhddaaGreatEb
import Derived.Test.YtgckmfadalhddaaGreatEc
import Derived.Test.YtgckmfadalhddaaGreatEd
import Derived.Test.YtgckmfadalhddaaGreatEe
import Derived.Test.YtgckmfadalhddaaGreatEf
import Derived.ProofKit
set_option linter.unusedVariables false
set_option linter.unusedSimpArgs false
namespace Go.Wr
open Go.Proofs
theorem all_nil {q : Nat × Fun -> Prop} : ∀ p ∈ ([] : List (Nat × Fun)), q p := fun _ h => by cases h
theorem all_cons {g : Nat} {F : Fun} {q : Nat -> Fun -> Prop} {l : List (Nat × Fun)} (h : q g F) (hl : ∀ p ∈ l, q p.1 p.2) : ∀ p ∈ (g, F) :: l, q p.1 p.2 := fun p hp => by
 rcases List.mem_cons.1 hp with rfl | hp
 ·exact h
 ·exact hl p hp
theorem ok_impl_copyInts : FunOk Tryz.prog tab g_impl_copyInts F_impl_copyInts := by
 unfold F_impl_copyInts; rw [lock_eq]
 exact fun_ok fol Tryz.func216 is_impl_copyInts all_nil
theorem ok_impl_counts : FunOk Tryz.prog tab g_impl_counts F_impl_counts := by
 unfold F_impl_counts; rw [lock_eq]
 exact fun_ok fol Tryz.func210 is_impl_counts (all_cons ok_impl_copyInts all_nil)
theorem ok_impl_within : FunOk Tryz.prog tab g_impl_within F_impl_within := by
 unfold F_impl_within; rw [lock_eq]
 exact fun_ok fol Tryz.func50 is_impl_within all_nil
theorem ok_impl_SketchOk : FunOk Tryz.prog tab g_impl_SketchOk F_impl_SketchOk := by
 unfold F_impl_SketchOk; rw [lock_eq]
 exact fun_ok fol Tryz.func181 is_impl_SketchOk (all_cons ok_impl_counts (all_cons ok_impl_within all_nil))
theorem ok_impl_ItemOk : FunOk Tryz.prog tab g_impl_ItemOk F_impl_ItemOk := by
 unfold F_impl_ItemOk; rw [lock_eq]
 exact fun_ok fol Tryz.func112 is_impl_ItemOk (all_cons ok_impl_within (all_cons ok_impl_within (all_cons ok_impl_within (all_cons ok_impl_within (all_cons ok_impl_SketchOk all_nil)))))
theorem ok_impl_SetOk : FunOk Tryz.prog tab g_impl_SetOk F_impl_SetOk := by
 unfold F_impl_SetOk; rw [lock_eq]
 exact fun_ok fol Tryz.func123 is_impl_SetOk (all_cons ok_impl_within (all_cons ok_impl_within all_nil))
theorem ok_impl_allIn : FunOk Tryz.prog tab g_impl_allIn F_impl_allIn := by
 unfold F_impl_allIn; rw [lock_eq]
 exact fun_ok fol Tryz.func113 is_impl_allIn (all_cons ok_impl_SetOk all_nil)
theorem ok_impl_AgentOk : FunOk Tryz.prog tab g_impl_AgentOk F_impl_AgentOk := by
 unfold F_impl_AgentOk; rw [lock_eq]
 exact fun_ok fol Tryz.func49 is_impl_AgentOk (all_cons ok_impl_within (all_cons ok_impl_within (all_cons ok_impl_within (all_cons ok_impl_within (all_cons ok_impl_ItemOk (all_cons ok_impl_allIn all_nil))))))
theorem ok_impl_IdOf : FunOk Tryz.prog tab g_impl_IdOf F_impl_IdOf := by
 unfold F_impl_IdOf; rw [lock_eq]
 exact fun_ok fol Tryz.func109 is_impl_IdOf (all_cons ok_impl_within (all_cons ok_impl_within all_nil))
theorem ok_impl_SetHas_c1 : FunOk Tryz.prog tab g_impl_SetHas_c1 F_impl_SetHas_c1 := by
 unfold F_impl_SetHas_c1; rw [lock_eq]
 exact fun_ok fol Tryz.func176 is_impl_SetHas_c1 (all_cons ok_impl_within all_nil)
theorem ok_slices_IndexFunc_Simpl_Span : FunOk Tryz.prog tab g_slices_IndexFunc_Simpl_Span F_slices_IndexFunc_Simpl_Span := by
 unfold F_slices_IndexFunc_Simpl_Span; rw [lock_eq]
 exact fun_ok fol Tryz.func206 is_slices_IndexFunc_Simpl_Span (all_cons ok_impl_SetHas_c1 all_nil)
theorem ok_slices_ContainsFunc_Simpl_Span : FunOk Tryz.prog tab g_slices_ContainsFunc_Simpl_Span F_slices_ContainsFunc_Simpl_Span := by
 unfold F_slices_ContainsFunc_Simpl_Span; rw [lock_eq]
 exact fun_ok fol Tryz.func175 is_slices_ContainsFunc_Simpl_Span (all_cons ok_slices_IndexFunc_Simpl_Span all_nil)
theorem ok_impl_SetHas : FunOk Tryz.prog tab g_impl_SetHas F_impl_SetHas := by
 unfold F_impl_SetHas; rw [lock_eq]
 exact fun_ok fol Tryz.func108 is_impl_SetHas (all_cons ok_slices_ContainsFunc_Simpl_Span all_nil)
theorem ok_impl_added : FunOk Tryz.prog tab g_impl_added F_impl_added := by
 unfold F_impl_added; rw [lock_eq]
 exact fun_ok fol Tryz.func106 is_impl_added all_nil
theorem ok_impl_EntryOk : FunOk Tryz.prog tab g_impl_EntryOk F_impl_EntryOk := by
 unfold F_impl_EntryOk; rw [lock_eq]
 exact fun_ok fol Tryz.func173 is_impl_EntryOk (all_cons ok_impl_within (all_cons ok_impl_within (all_cons ok_impl_SetOk (all_cons ok_impl_SketchOk all_nil))))
theorem ok_impl_SetApart : FunOk Tryz.prog tab g_impl_SetApart F_impl_SetApart := by
 unfold F_impl_SetApart; rw [lock_eq]
 exact fun_ok fol Tryz.func174 is_impl_SetApart (all_cons ok_impl_SetOk (all_cons ok_impl_SetOk all_nil))
theorem ok_impl_apart : FunOk Tryz.prog tab g_impl_apart F_impl_apart := by
 unfold F_impl_apart; rw [lock_eq]
 exact fun_ok fol Tryz.func104 is_impl_apart (all_cons ok_impl_EntryOk (all_cons ok_impl_SetApart all_nil))
theorem ok_impl_copySet : FunOk Tryz.prog tab g_impl_copySet F_impl_copySet := by
 unfold F_impl_copySet; rw [lock_eq]
 exact fun_ok fol Tryz.func177 is_impl_copySet all_nil
theorem ok_cmp_isNaN_int : FunOk Tryz.prog tab g_cmp_isNaN_int F_cmp_isNaN_int := by
 unfold F_cmp_isNaN_int; rw [lock_eq]
 exact fun_ok fol Tryz.func209 is_cmp_isNaN_int all_nil
theorem ok_cmp_Compare_int : FunOk Tryz.prog tab g_cmp_Compare_int F_cmp_Compare_int := by
 unfold F_cmp_Compare_int; rw [lock_eq]
 exact fun_ok fol Tryz.func180 is_cmp_Compare_int (all_cons ok_cmp_isNaN_int (all_cons ok_cmp_isNaN_int all_nil))
theorem ok_impl_union_c1 : FunOk Tryz.prog tab g_impl_union_c1 F_impl_union_c1 := by
 unfold F_impl_union_c1; rw [lock_eq]
 exact fun_ok fol Tryz.func179 is_impl_union_c1 (all_cons ok_cmp_Compare_int all_nil)
theorem ok_impl_union : FunOk Tryz.prog tab g_impl_union F_impl_union := by
 unfold F_impl_union; rw [lock_eq]
 exact fun_ok fol Tryz.func110 is_impl_union (all_cons ok_impl_copySet (all_cons ok_slices_SortFunc_Simpl_Span all_nil))
theorem ok_impl_idsOf : FunOk Tryz.prog tab g_impl_idsOf F_impl_idsOf := by
 unfold F_impl_idsOf; rw [lock_eq]
 exact fun_ok fol Tryz.func107 is_impl_idsOf (all_cons ok_impl_union all_nil)
theorem ok_impl_allWithin : FunOk Tryz.prog tab g_impl_allWithin F_impl_allWithin := by
 unfold F_impl_allWithin; rw [lock_eq]
 exact fun_ok fol Tryz.func192 is_impl_allWithin (all_cons ok_impl_within all_nil)
theorem ok_impl_ConfOk : FunOk Tryz.prog tab g_impl_ConfOk F_impl_ConfOk := by
 unfold F_impl_ConfOk; rw [lock_eq]
 exact fun_ok fol Tryz.func126 is_impl_ConfOk (all_cons ok_impl_within (all_cons ok_impl_within (all_cons ok_impl_within (all_cons ok_impl_allWithin (all_cons ok_impl_within (all_cons ok_impl_within (all_cons ok_impl_within (all_cons ok_impl_within all_nil))))))))
theorem ok_impl_RowOk : FunOk Tryz.prog tab g_impl_RowOk F_impl_RowOk := by
 unfold F_impl_RowOk; rw [lock_eq]
 exact fun_ok fol Tryz.func169 is_impl_RowOk (all_cons ok_impl_apart all_nil)
theorem ok_impl_RowIds : FunOk Tryz.prog tab g_impl_RowIds F_impl_RowIds := by
 unfold F_impl_RowIds; rw [lock_eq]
 exact fun_ok fol Tryz.func170 is_impl_RowIds (all_cons ok_impl_RowOk (all_cons ok_impl_idsOf all_nil))
theorem ok_impl_SetSize : FunOk Tryz.prog tab g_impl_SetSize F_impl_SetSize := by
 unfold F_impl_SetSize; rw [lock_eq]
 exact fun_ok fol Tryz.func55 is_impl_SetSize (all_cons ok_impl_SetOk all_nil)
theorem ok_impl_SeatOk : FunOk Tryz.prog tab g_impl_SeatOk F_impl_SeatOk := by
 unfold F_impl_SeatOk; rw [lock_eq]
 exact fun_ok fol Tryz.func168 is_impl_SeatOk (all_cons ok_impl_within (all_cons ok_impl_within (all_cons ok_impl_within (all_cons ok_impl_allIn (all_cons ok_impl_SetSize (all_cons ok_impl_within (all_cons ok_impl_within all_nil)))))))
theorem ok_impl_TurnOk : FunOk Tryz.prog tab g_impl_TurnOk F_impl_TurnOk := by
 unfold F_impl_TurnOk; rw [lock_eq]
 exact fun_ok fol Tryz.func171 is_impl_TurnOk (all_cons ok_impl_within (all_cons ok_impl_allWithin all_nil))
theorem ok_impl_ahead : FunOk Tryz.prog tab g_impl_ahead F_impl_ahead := by
 unfold F_impl_ahead; rw [lock_eq]
 exact fun_ok fol Tryz.func172 is_impl_ahead all_nil
theorem ok_impl_partsOk : FunOk Tryz.prog tab g_impl_partsOk F_impl_partsOk := by
 unfold F_impl_partsOk; rw [lock_eq]
 exact fun_ok fol Tryz.func103 is_impl_partsOk (all_cons ok_impl_ConfOk (all_cons ok_impl_within (all_cons ok_impl_within (all_cons ok_impl_SeatOk (all_cons ok_impl_RowOk (all_cons ok_impl_RowIds (all_cons ok_impl_IdOf (all_cons ok_impl_IdOf (all_cons ok_impl_allIn (all_cons ok_impl_TurnOk (all_cons ok_impl_ahead all_nil)))))))))))
theorem ok_impl_rowEntries : FunOk Tryz.prog tab g_impl_rowEntries F_impl_rowEntries := by
 unfold F_impl_rowEntries; rw [lock_eq]
 exact fun_ok fol Tryz.func105 is_impl_rowEntries all_nil
theorem ok_impl_told : FunOk Tryz.prog tab g_impl_told F_impl_told := by
 unfold F_impl_told; rw [lock_eq]
 exact fun_ok fol Tryz.func111 is_impl_told all_nil
theorem ok_slices_Equal_Simpl_Span : FunOk Tryz.prog tab g_slices_Equal_Simpl_Span F_slices_Equal_Simpl_Span := by
 unfold F_slices_Equal_Simpl_Span; rw [lock_eq]
 exact fun_ok fol Tryz.func75 is_slices_Equal_Simpl_Span all_nil
theorem ok_impl_HouseOk : FunOk Tryz.prog tab g_impl_HouseOk F_impl_HouseOk := by
 unfold F_impl_HouseOk; rw [lock_eq]
 exact fun_ok fol Tryz.func48 is_impl_HouseOk (all_cons ok_impl_partsOk (all_cons ok_impl_rowEntries (all_cons ok_impl_added (all_cons ok_impl_apart (all_cons ok_impl_added (all_cons ok_impl_idsOf (all_cons ok_impl_IdOf (all_cons ok_impl_SetHas (all_cons ok_impl_IdOf (all_cons ok_impl_IdOf (all_cons ok_impl_union (all_cons ok_impl_rowEntries (all_cons ok_impl_added (all_cons ok_impl_idsOf (all_cons ok_slices_Equal_Simpl_Span (all_cons ok_impl_told all_nil))))))))))))))))
theorem ok_impl_WorldOk : FunOk Tryz.prog tab g_impl_WorldOk F_impl_WorldOk := by
 unfold F_impl_WorldOk; rw [lock_eq]
 exact fun_ok fol Tryz.func17 is_impl_WorldOk (all_cons ok_impl_HouseOk (all_cons ok_impl_AgentOk (all_cons ok_impl_within all_nil)))
theorem ok_laws_eqIntS : FunOk Tryz.prog tab g_laws_eqIntS F_laws_eqIntS := by
 unfold F_laws_eqIntS; rw [lock_eq]
 exact fun_ok fol Tryz.func184 is_laws_eqIntS all_nil
theorem ok_laws_eqIntSS : FunOk Tryz.prog tab g_laws_eqIntSS F_laws_eqIntSS := by
 unfold F_laws_eqIntSS; rw [lock_eq]
 exact fun_ok fol Tryz.func231 is_laws_eqIntSS (all_cons ok_laws_eqIntS all_nil)
theorem ok_laws_eqSketch : FunOk Tryz.prog tab g_laws_eqSketch F_laws_eqSketch := by
 unfold F_laws_eqSketch; rw [lock_eq]
 exact fun_ok fol Tryz.func214 is_laws_eqSketch (all_cons ok_laws_eqIntS (all_cons ok_laws_eqIntS (all_cons ok_laws_eqIntSS all_nil)))
theorem ok_laws_eqItem : FunOk Tryz.prog tab g_laws_eqItem F_laws_eqItem := by
 unfold F_laws_eqItem; rw [lock_eq]
 exact fun_ok fol Tryz.func211 is_laws_eqItem (all_cons ok_laws_eqSketch all_nil)
theorem ok_laws_eqItemS : FunOk Tryz.prog tab g_laws_eqItemS F_laws_eqItemS := by
 unfold F_laws_eqItemS; rw [lock_eq]
 exact fun_ok fol Tryz.func182 is_laws_eqItemS (all_cons ok_laws_eqItem all_nil)
theorem ok_laws_eqSpan : FunOk Tryz.prog tab g_laws_eqSpan F_laws_eqSpan := by
 unfold F_laws_eqSpan; rw [lock_eq]
 exact fun_ok fol Tryz.func212 is_laws_eqSpan all_nil
theorem ok_laws_eqSpanS : FunOk Tryz.prog tab g_laws_eqSpanS F_laws_eqSpanS := by
 unfold F_laws_eqSpanS; rw [lock_eq]
 exact fun_ok fol Tryz.func183 is_laws_eqSpanS (all_cons ok_laws_eqSpan all_nil)
theorem ok_laws_eqAgent : FunOk Tryz.prog tab g_laws_eqAgent F_laws_eqAgent := by
 unfold F_laws_eqAgent; rw [lock_eq]
 exact fun_ok fol Tryz.func114 is_laws_eqAgent (all_cons ok_laws_eqItemS (all_cons ok_laws_eqSpanS all_nil))
theorem ok_laws_eqAgentS : FunOk Tryz.prog tab g_laws_eqAgentS F_laws_eqAgentS := by
 unfold F_laws_eqAgentS; rw [lock_eq]
 exact fun_ok fol Tryz.func51 is_laws_eqAgentS (all_cons ok_laws_eqAgent all_nil)
theorem ok_laws_eqConf : FunOk Tryz.prog tab g_laws_eqConf F_laws_eqConf := by
 unfold F_laws_eqConf; rw [lock_eq]
 exact fun_ok fol Tryz.func115 is_laws_eqConf (all_cons ok_laws_eqIntS all_nil)
theorem ok_laws_eqEntry : FunOk Tryz.prog tab g_laws_eqEntry F_laws_eqEntry := by
 unfold F_laws_eqEntry; rw [lock_eq]
 exact fun_ok fol Tryz.func188 is_laws_eqEntry (all_cons ok_laws_eqSpanS (all_cons ok_laws_eqSketch all_nil))
theorem ok_laws_eqEntryS : FunOk Tryz.prog tab g_laws_eqEntryS F_laws_eqEntryS := by
 unfold F_laws_eqEntryS; rw [lock_eq]
 exact fun_ok fol Tryz.func119 is_laws_eqEntryS (all_cons ok_laws_eqEntry all_nil)
theorem ok_laws_eqOut : FunOk Tryz.prog tab g_laws_eqOut F_laws_eqOut := by
 unfold F_laws_eqOut; rw [lock_eq]
 exact fun_ok fol Tryz.func189 is_laws_eqOut (all_cons ok_laws_eqEntry all_nil)
theorem ok_laws_eqOutS : FunOk Tryz.prog tab g_laws_eqOutS F_laws_eqOutS := by
 unfold F_laws_eqOutS; rw [lock_eq]
 exact fun_ok fol Tryz.func120 is_laws_eqOutS (all_cons ok_laws_eqOut all_nil)
theorem ok_laws_eqRow : FunOk Tryz.prog tab g_laws_eqRow F_laws_eqRow := by
 unfold F_laws_eqRow; rw [lock_eq]
 exact fun_ok fol Tryz.func213 is_laws_eqRow (all_cons ok_laws_eqEntryS all_nil)
theorem ok_laws_eqRowS : FunOk Tryz.prog tab g_laws_eqRowS F_laws_eqRowS := by
 unfold F_laws_eqRowS; rw [lock_eq]
 exact fun_ok fol Tryz.func186 is_laws_eqRowS (all_cons ok_laws_eqRow all_nil)
theorem ok_laws_eqRowSS : FunOk Tryz.prog tab g_laws_eqRowSS F_laws_eqRowSS := by
 unfold F_laws_eqRowSS; rw [lock_eq]
 exact fun_ok fol Tryz.func117 is_laws_eqRowSS (all_cons ok_laws_eqRowS all_nil)
theorem ok_laws_eqSeat : FunOk Tryz.prog tab g_laws_eqSeat F_laws_eqSeat := by
 unfold F_laws_eqSeat; rw [lock_eq]
 exact fun_ok fol Tryz.func185 is_laws_eqSeat (all_cons ok_laws_eqSpanS all_nil)
theorem ok_laws_eqSeatS : FunOk Tryz.prog tab g_laws_eqSeatS F_laws_eqSeatS := by
 unfold F_laws_eqSeatS; rw [lock_eq]
 exact fun_ok fol Tryz.func116 is_laws_eqSeatS (all_cons ok_laws_eqSeat all_nil)
theorem ok_laws_eqTurn : FunOk Tryz.prog tab g_laws_eqTurn F_laws_eqTurn := by
 unfold F_laws_eqTurn; rw [lock_eq]
 exact fun_ok fol Tryz.func187 is_laws_eqTurn (all_cons ok_laws_eqIntS all_nil)
theorem ok_laws_eqTurnS : FunOk Tryz.prog tab g_laws_eqTurnS F_laws_eqTurnS := by
 unfold F_laws_eqTurnS; rw [lock_eq]
 exact fun_ok fol Tryz.func118 is_laws_eqTurnS (all_cons ok_laws_eqTurn all_nil)
theorem ok_laws_eqHouse : FunOk Tryz.prog tab g_laws_eqHouse F_laws_eqHouse := by
 unfold F_laws_eqHouse; rw [lock_eq]
 exact fun_ok fol Tryz.func52 is_laws_eqHouse (all_cons ok_laws_eqConf (all_cons ok_laws_eqSeatS (all_cons ok_laws_eqRowSS (all_cons ok_laws_eqTurnS (all_cons ok_laws_eqEntryS (all_cons ok_laws_eqOutS all_nil))))))
theorem ok_laws_eqByteS : FunOk Tryz.prog tab g_laws_eqByteS F_laws_eqByteS := by
 unfold F_laws_eqByteS; rw [lock_eq]
 exact fun_ok fol Tryz.func190 is_laws_eqByteS all_nil
theorem ok_laws_eqPack : FunOk Tryz.prog tab g_laws_eqPack F_laws_eqPack := by
 unfold F_laws_eqPack; rw [lock_eq]
 exact fun_ok fol Tryz.func121 is_laws_eqPack (all_cons ok_laws_eqByteS all_nil)
theorem ok_laws_eqPackS : FunOk Tryz.prog tab g_laws_eqPackS F_laws_eqPackS := by
 unfold F_laws_eqPackS; rw [lock_eq]
 exact fun_ok fol Tryz.func53 is_laws_eqPackS (all_cons ok_laws_eqPack all_nil)
theorem ok_laws_eqWorld : FunOk Tryz.prog tab g_laws_eqWorld F_laws_eqWorld := by
 unfold F_laws_eqWorld; rw [lock_eq]
 exact fun_ok fol Tryz.func18 is_laws_eqWorld (all_cons ok_laws_eqAgentS (all_cons ok_laws_eqHouse (all_cons ok_laws_eqPackS all_nil)))
theorem ok_laws_szIntS : FunOk Tryz.prog tab g_laws_szIntS F_laws_szIntS := by
 unfold F_laws_szIntS; rw [lock_eq]
 exact fun_ok fol Tryz.func141 is_laws_szIntS all_nil
theorem ok_laws_szIntSS : FunOk Tryz.prog tab g_laws_szIntSS F_laws_szIntSS := by
 unfold F_laws_szIntSS; rw [lock_eq]
 exact fun_ok fol Tryz.func219 is_laws_szIntSS (all_cons ok_laws_szIntS all_nil)
theorem ok_laws_szSketch : FunOk Tryz.prog tab g_laws_szSketch F_laws_szSketch := by
 unfold F_laws_szSketch; rw [lock_eq]
 exact fun_ok fol Tryz.func199 is_laws_szSketch (all_cons ok_laws_szIntS (all_cons ok_laws_szIntS (all_cons ok_laws_szIntSS all_nil)))
theorem ok_laws_szItem : FunOk Tryz.prog tab g_laws_szItem F_laws_szItem := by
 unfold F_laws_szItem; rw [lock_eq]
 exact fun_ok fol Tryz.func197 is_laws_szItem (all_cons ok_laws_szSketch all_nil)
theorem ok_laws_szItemS : FunOk Tryz.prog tab g_laws_szItemS F_laws_szItemS := by
 unfold F_laws_szItemS; rw [lock_eq]
 exact fun_ok fol Tryz.func139 is_laws_szItemS (all_cons ok_laws_szItem all_nil)
theorem ok_laws_szSpanS : FunOk Tryz.prog tab g_laws_szSpanS F_laws_szSpanS := by
 unfold F_laws_szSpanS; rw [lock_eq]
 exact fun_ok fol Tryz.func140 is_laws_szSpanS all_nil
theorem ok_laws_szAgent : FunOk Tryz.prog tab g_laws_szAgent F_laws_szAgent := by
 unfold F_laws_szAgent; rw [lock_eq]
 exact fun_ok fol Tryz.func76 is_laws_szAgent (all_cons ok_laws_szItemS (all_cons ok_laws_szSpanS all_nil))
theorem ok_laws_szAgentS : FunOk Tryz.prog tab g_laws_szAgentS F_laws_szAgentS := by
 unfold F_laws_szAgentS; rw [lock_eq]
 exact fun_ok fol Tryz.func39 is_laws_szAgentS (all_cons ok_laws_szAgent all_nil)
theorem ok_laws_szConf : FunOk Tryz.prog tab g_laws_szConf F_laws_szConf := by
 unfold F_laws_szConf; rw [lock_eq]
 exact fun_ok fol Tryz.func77 is_laws_szConf (all_cons ok_laws_szIntS all_nil)
theorem ok_laws_szEntry : FunOk Tryz.prog tab g_laws_szEntry F_laws_szEntry := by
 unfold F_laws_szEntry; rw [lock_eq]
 exact fun_ok fol Tryz.func145 is_laws_szEntry (all_cons ok_laws_szSpanS (all_cons ok_laws_szSketch all_nil))
theorem ok_laws_szEntryS : FunOk Tryz.prog tab g_laws_szEntryS F_laws_szEntryS := by
 unfold F_laws_szEntryS; rw [lock_eq]
 exact fun_ok fol Tryz.func81 is_laws_szEntryS (all_cons ok_laws_szEntry all_nil)
theorem ok_laws_szOut : FunOk Tryz.prog tab g_laws_szOut F_laws_szOut := by
 unfold F_laws_szOut; rw [lock_eq]
 exact fun_ok fol Tryz.func146 is_laws_szOut (all_cons ok_laws_szEntry all_nil)
theorem ok_laws_szOutS : FunOk Tryz.prog tab g_laws_szOutS F_laws_szOutS := by
 unfold F_laws_szOutS; rw [lock_eq]
 exact fun_ok fol Tryz.func82 is_laws_szOutS (all_cons ok_laws_szOut all_nil)
theorem ok_laws_szRow : FunOk Tryz.prog tab g_laws_szRow F_laws_szRow := by
 unfold F_laws_szRow; rw [lock_eq]
 exact fun_ok fol Tryz.func198 is_laws_szRow (all_cons ok_laws_szEntryS all_nil)
theorem ok_laws_szRowS : FunOk Tryz.prog tab g_laws_szRowS F_laws_szRowS := by
 unfold F_laws_szRowS; rw [lock_eq]
 exact fun_ok fol Tryz.func143 is_laws_szRowS (all_cons ok_laws_szRow all_nil)
theorem ok_laws_szRowSS : FunOk Tryz.prog tab g_laws_szRowSS F_laws_szRowSS := by
 unfold F_laws_szRowSS; rw [lock_eq]
 exact fun_ok fol Tryz.func79 is_laws_szRowSS (all_cons ok_laws_szRowS all_nil)
theorem ok_laws_szSeat : FunOk Tryz.prog tab g_laws_szSeat F_laws_szSeat := by
 unfold F_laws_szSeat; rw [lock_eq]
 exact fun_ok fol Tryz.func142 is_laws_szSeat (all_cons ok_laws_szSpanS all_nil)
theorem ok_laws_szSeatS : FunOk Tryz.prog tab g_laws_szSeatS F_laws_szSeatS := by
 unfold F_laws_szSeatS; rw [lock_eq]
 exact fun_ok fol Tryz.func78 is_laws_szSeatS (all_cons ok_laws_szSeat all_nil)
theorem ok_laws_szTurn : FunOk Tryz.prog tab g_laws_szTurn F_laws_szTurn := by
 unfold F_laws_szTurn; rw [lock_eq]
 exact fun_ok fol Tryz.func144 is_laws_szTurn (all_cons ok_laws_szIntS all_nil)
theorem ok_laws_szTurnS : FunOk Tryz.prog tab g_laws_szTurnS F_laws_szTurnS := by
 unfold F_laws_szTurnS; rw [lock_eq]
 exact fun_ok fol Tryz.func80 is_laws_szTurnS (all_cons ok_laws_szTurn all_nil)
theorem ok_laws_szHouse : FunOk Tryz.prog tab g_laws_szHouse F_laws_szHouse := by
 unfold F_laws_szHouse; rw [lock_eq]
 exact fun_ok fol Tryz.func40 is_laws_szHouse (all_cons ok_laws_szConf (all_cons ok_laws_szSeatS (all_cons ok_laws_szRowSS (all_cons ok_laws_szTurnS (all_cons ok_laws_szEntryS (all_cons ok_laws_szOutS all_nil))))))
theorem ok_laws_szByteS : FunOk Tryz.prog tab g_laws_szByteS F_laws_szByteS := by
 unfold F_laws_szByteS; rw [lock_eq]
 exact fun_ok fol Tryz.func147 is_laws_szByteS all_nil
theorem ok_laws_szPack : FunOk Tryz.prog tab g_laws_szPack F_laws_szPack := by
 unfold F_laws_szPack; rw [lock_eq]
 exact fun_ok fol Tryz.func83 is_laws_szPack (all_cons ok_laws_szByteS all_nil)
theorem ok_laws_szPackS : FunOk Tryz.prog tab g_laws_szPackS F_laws_szPackS := by
 unfold F_laws_szPackS; rw [lock_eq]
 exact fun_ok fol Tryz.func41 is_laws_szPackS (all_cons ok_laws_szPack all_nil)
theorem ok_laws_szWorld : FunOk Tryz.prog tab g_laws_szWorld F_laws_szWorld := by
 unfold F_laws_szWorld; rw [lock_eq]
 exact fun_ok fol Tryz.func14 is_laws_szWorld (all_cons ok_laws_szAgentS (all_cons ok_laws_szHouse (all_cons ok_laws_szPackS all_nil)))
theorem ok_laws_toIntS : FunOk Tryz.prog tab g_laws_toIntS F_laws_toIntS := by
 unfold F_laws_toIntS; rw [lock_eq]
 exact fun_ok fol Tryz.func161 is_laws_toIntS all_nil
theorem ok_laws_toIntSS : FunOk Tryz.prog tab g_laws_toIntSS F_laws_toIntSS := by
 unfold F_laws_toIntSS; rw [lock_eq]
 exact fun_ok fol Tryz.func220 is_laws_toIntSS (all_cons ok_laws_toIntS all_nil)
theorem ok_laws_toSketch : FunOk Tryz.prog tab g_laws_toSketch F_laws_toSketch := by
 unfold F_laws_toSketch; rw [lock_eq]
 exact fun_ok fol Tryz.func205 is_laws_toSketch (all_cons ok_laws_toIntS (all_cons ok_laws_toIntS (all_cons ok_laws_toIntSS all_nil)))
theorem ok_laws_toItem : FunOk Tryz.prog tab g_laws_toItem F_laws_toItem := by
 unfold F_laws_toItem; rw [lock_eq]
 exact fun_ok fol Tryz.func202 is_laws_toItem (all_cons ok_laws_toSketch all_nil)
theorem ok_laws_toItemS : FunOk Tryz.prog tab g_laws_toItemS F_laws_toItemS := by
 unfold F_laws_toItemS; rw [lock_eq]
 exact fun_ok fol Tryz.func159 is_laws_toItemS (all_cons ok_laws_toItem all_nil)
theorem ok_laws_toSpan : FunOk Tryz.prog tab g_laws_toSpan F_laws_toSpan := by
 unfold F_laws_toSpan; rw [lock_eq]
 exact fun_ok fol Tryz.func203 is_laws_toSpan all_nil
theorem ok_laws_toSpanS : FunOk Tryz.prog tab g_laws_toSpanS F_laws_toSpanS := by
 unfold F_laws_toSpanS; rw [lock_eq]
 exact fun_ok fol Tryz.func160 is_laws_toSpanS (all_cons ok_laws_toSpan all_nil)
theorem ok_laws_toAgent : FunOk Tryz.prog tab g_laws_toAgent F_laws_toAgent := by
 unfold F_laws_toAgent; rw [lock_eq]
 exact fun_ok fol Tryz.func95 is_laws_toAgent (all_cons ok_laws_toItemS (all_cons ok_laws_toSpanS all_nil))
theorem ok_laws_toAgentS : FunOk Tryz.prog tab g_laws_toAgentS F_laws_toAgentS := by
 unfold F_laws_toAgentS; rw [lock_eq]
 exact fun_ok fol Tryz.func45 is_laws_toAgentS (all_cons ok_laws_toAgent all_nil)
theorem ok_laws_toConf : FunOk Tryz.prog tab g_laws_toConf F_laws_toConf := by
 unfold F_laws_toConf; rw [lock_eq]
 exact fun_ok fol Tryz.func96 is_laws_toConf (all_cons ok_laws_toIntS all_nil)
theorem ok_laws_toEntry : FunOk Tryz.prog tab g_laws_toEntry F_laws_toEntry := by
 unfold F_laws_toEntry; rw [lock_eq]
 exact fun_ok fol Tryz.func165 is_laws_toEntry (all_cons ok_laws_toSpanS (all_cons ok_laws_toSketch all_nil))
theorem ok_laws_toEntryS : FunOk Tryz.prog tab g_laws_toEntryS F_laws_toEntryS := by
 unfold F_laws_toEntryS; rw [lock_eq]
 exact fun_ok fol Tryz.func100 is_laws_toEntryS (all_cons ok_laws_toEntry all_nil)
theorem ok_laws_toOut : FunOk Tryz.prog tab g_laws_toOut F_laws_toOut := by
 unfold F_laws_toOut; rw [lock_eq]
 exact fun_ok fol Tryz.func166 is_laws_toOut (all_cons ok_laws_toEntry all_nil)
theorem ok_laws_toOutS : FunOk Tryz.prog tab g_laws_toOutS F_laws_toOutS := by
 unfold F_laws_toOutS; rw [lock_eq]
 exact fun_ok fol Tryz.func101 is_laws_toOutS (all_cons ok_laws_toOut all_nil)
theorem ok_laws_toRow : FunOk Tryz.prog tab g_laws_toRow F_laws_toRow := by
 unfold F_laws_toRow; rw [lock_eq]
 exact fun_ok fol Tryz.func204 is_laws_toRow (all_cons ok_laws_toEntryS all_nil)
theorem ok_laws_toRowS : FunOk Tryz.prog tab g_laws_toRowS F_laws_toRowS := by
 unfold F_laws_toRowS; rw [lock_eq]
 exact fun_ok fol Tryz.func163 is_laws_toRowS (all_cons ok_laws_toRow all_nil)
theorem ok_laws_toRowSS : FunOk Tryz.prog tab g_laws_toRowSS F_laws_toRowSS := by
 unfold F_laws_toRowSS; rw [lock_eq]
 exact fun_ok fol Tryz.func98 is_laws_toRowSS (all_cons ok_laws_toRowS all_nil)
theorem ok_laws_toSeat : FunOk Tryz.prog tab g_laws_toSeat F_laws_toSeat := by
 unfold F_laws_toSeat; rw [lock_eq]
 exact fun_ok fol Tryz.func162 is_laws_toSeat (all_cons ok_laws_toSpanS all_nil)
theorem ok_laws_toSeatS : FunOk Tryz.prog tab g_laws_toSeatS F_laws_toSeatS := by
 unfold F_laws_toSeatS; rw [lock_eq]
 exact fun_ok fol Tryz.func97 is_laws_toSeatS (all_cons ok_laws_toSeat all_nil)
theorem ok_laws_toTurn : FunOk Tryz.prog tab g_laws_toTurn F_laws_toTurn := by
 unfold F_laws_toTurn; rw [lock_eq]
 exact fun_ok fol Tryz.func164 is_laws_toTurn (all_cons ok_laws_toIntS all_nil)
theorem ok_laws_toTurnS : FunOk Tryz.prog tab g_laws_toTurnS F_laws_toTurnS := by
 unfold F_laws_toTurnS; rw [lock_eq]
 exact fun_ok fol Tryz.func99 is_laws_toTurnS (all_cons ok_laws_toTurn all_nil)
theorem ok_laws_toHouse : FunOk Tryz.prog tab g_laws_toHouse F_laws_toHouse := by
 unfold F_laws_toHouse; rw [lock_eq]
 exact fun_ok fol Tryz.func46 is_laws_toHouse (all_cons ok_laws_toConf (all_cons ok_laws_toSeatS (all_cons ok_laws_toRowSS (all_cons ok_laws_toTurnS (all_cons ok_laws_toEntryS (all_cons ok_laws_toOutS all_nil))))))
theorem ok_laws_toByteS : FunOk Tryz.prog tab g_laws_toByteS F_laws_toByteS := by
 unfold F_laws_toByteS; rw [lock_eq]
 exact fun_ok fol Tryz.func167 is_laws_toByteS all_nil
theorem ok_laws_toPack : FunOk Tryz.prog tab g_laws_toPack F_laws_toPack := by
 unfold F_laws_toPack; rw [lock_eq]
 exact fun_ok fol Tryz.func102 is_laws_toPack (all_cons ok_laws_toByteS all_nil)
theorem ok_laws_toPackS : FunOk Tryz.prog tab g_laws_toPackS F_laws_toPackS := by
 unfold F_laws_toPackS; rw [lock_eq]
 exact fun_ok fol Tryz.func47 is_laws_toPackS (all_cons ok_laws_toPack all_nil)
theorem ok_laws_toWorld : FunOk Tryz.prog tab g_laws_toWorld F_laws_toWorld := by
 unfold F_laws_toWorld; rw [lock_eq]
 exact fun_ok fol Tryz.func16 is_laws_toWorld (all_cons ok_laws_toAgentS (all_cons ok_laws_toHouse (all_cons ok_laws_toPackS all_nil)))
theorem ok_spec_l1In : FunOk Tryz.prog tab g_spec_l1In F_spec_l1In := by
 unfold F_spec_l1In; rw [lock_eq]
 exact fun_ok fol Tryz.func44 is_spec_l1In all_nil
theorem ok_spec_l3List : FunOk Tryz.prog tab g_spec_l3List F_spec_l3List := by
 unfold F_spec_l3List; rw [lock_eq]
 exact fun_ok fol Tryz.func201 is_spec_l3List (all_cons ok_spec_l1In all_nil)
theorem ok_spec_SketchOk : FunOk Tryz.prog tab g_spec_SketchOk F_spec_SketchOk := by
 unfold F_spec_SketchOk; rw [lock_eq]
 exact fun_ok fol Tryz.func158 is_spec_SketchOk (all_cons ok_spec_l1In (all_cons ok_spec_l1In (all_cons ok_spec_l1In (all_cons ok_spec_l1In (all_cons ok_spec_l3List (all_cons ok_spec_l3List (all_cons ok_spec_l3List (all_cons ok_spec_l3List all_nil))))))))
theorem ok_spec_l6Place : FunOk Tryz.prog tab g_spec_l6Place F_spec_l6Place := by
 unfold F_spec_l6Place; rw [lock_eq]
 exact fun_ok fol Tryz.func157 is_spec_l6Place (all_cons ok_spec_l1In (all_cons ok_spec_l1In all_nil))
theorem ok_spec_ItemOk : FunOk Tryz.prog tab g_spec_ItemOk F_spec_ItemOk := by
 unfold F_spec_ItemOk; rw [lock_eq]
 exact fun_ok fol Tryz.func94 is_spec_ItemOk (all_cons ok_spec_l1In (all_cons ok_spec_l1In (all_cons ok_spec_l6Place (all_cons ok_spec_SketchOk all_nil))))
theorem ok_spec_l6Agent : FunOk Tryz.prog tab g_spec_l6Agent F_spec_l6Agent := by
 unfold F_spec_l6Agent; rw [lock_eq]
 exact fun_ok fol Tryz.func92 is_spec_l6Agent (all_cons ok_spec_l1In all_nil)
theorem ok_spec_SetOk : FunOk Tryz.prog tab g_spec_SetOk F_spec_SetOk := by
 unfold F_spec_SetOk; rw [lock_eq]
 exact fun_ok fol Tryz.func122 is_spec_SetOk (all_cons ok_spec_l1In (all_cons ok_spec_l1In all_nil))
theorem ok_spec_l8Below : FunOk Tryz.prog tab g_spec_l8Below F_spec_l8Below := by
 unfold F_spec_l8Below; rw [lock_eq]
 exact fun_ok fol Tryz.func93 is_spec_l8Below (all_cons ok_spec_SetOk all_nil)
theorem ok_spec_AgentOk : FunOk Tryz.prog tab g_spec_AgentOk F_spec_AgentOk := by
 unfold F_spec_AgentOk; rw [lock_eq]
 exact fun_ok fol Tryz.func43 is_spec_AgentOk (all_cons ok_spec_l6Agent (all_cons ok_spec_l1In (all_cons ok_spec_l1In (all_cons ok_spec_l1In (all_cons ok_spec_l8Below (all_cons ok_spec_ItemOk all_nil))))))
theorem ok_spec_l11Nums : FunOk Tryz.prog tab g_spec_l11Nums F_spec_l11Nums := by
 unfold F_spec_l11Nums; rw [lock_eq]
 exact fun_ok fol Tryz.func148 is_spec_l11Nums (all_cons ok_spec_l1In all_nil)
theorem ok_spec_ConfOk : FunOk Tryz.prog tab g_spec_ConfOk F_spec_ConfOk := by
 unfold F_spec_ConfOk; rw [lock_eq]
 exact fun_ok fol Tryz.func84 is_spec_ConfOk (all_cons ok_spec_l1In (all_cons ok_spec_l1In (all_cons ok_spec_l1In (all_cons ok_spec_l11Nums (all_cons ok_spec_l1In (all_cons ok_spec_l1In (all_cons ok_spec_l1In (all_cons ok_spec_l1In all_nil))))))))
theorem ok_spec_SetApart : FunOk Tryz.prog tab g_spec_SetApart F_spec_SetApart := by
 unfold F_spec_SetApart; rw [lock_eq]
 exact fun_ok fol Tryz.func88 is_spec_SetApart (all_cons ok_spec_SetOk (all_cons ok_spec_SetOk all_nil))
theorem ok_spec_l12All : FunOk Tryz.prog tab g_spec_l12All F_spec_l12All := by
 unfold F_spec_l12All; rw [lock_eq]
 exact fun_ok fol Tryz.func87 is_spec_l12All all_nil
theorem ok_spec_l1Max : FunOk Tryz.prog tab g_spec_l1Max F_spec_l1Max := by
 unfold F_spec_l1Max; rw [lock_eq]
 exact fun_ok fol Tryz.func56 is_spec_l1Max all_nil
theorem ok_spec_l1Min : FunOk Tryz.prog tab g_spec_l1Min F_spec_l1Min := by
 unfold F_spec_l1Min; rw [lock_eq]
 exact fun_ok fol Tryz.func156 is_spec_l1Min all_nil
theorem ok_spec_l12Of : FunOk Tryz.prog tab g_spec_l12Of F_spec_l12Of := by
 unfold F_spec_l12Of; rw [lock_eq]
 exact fun_ok fol Tryz.func91 is_spec_l12Of (all_cons ok_spec_l1Max (all_cons ok_spec_l1Min (all_cons ok_spec_l1Max all_nil)))
theorem ok_spec_EntryOk : FunOk Tryz.prog tab g_spec_EntryOk F_spec_EntryOk := by
 unfold F_spec_EntryOk; rw [lock_eq]
 exact fun_ok fol Tryz.func153 is_spec_EntryOk (all_cons ok_spec_l6Place (all_cons ok_spec_SetOk (all_cons ok_spec_SketchOk all_nil)))
theorem ok_spec_RowOk : FunOk Tryz.prog tab g_spec_RowOk F_spec_RowOk := by
 unfold F_spec_RowOk; rw [lock_eq]
 exact fun_ok fol Tryz.func151 is_spec_RowOk (all_cons ok_spec_EntryOk (all_cons ok_spec_SetApart all_nil))
theorem ok_spec_l5Copy : FunOk Tryz.prog tab g_spec_l5Copy F_spec_l5Copy := by
 unfold F_spec_l5Copy; rw [lock_eq]
 exact fun_ok fol Tryz.func155 is_spec_l5Copy all_nil
theorem ok_spec_l5Put : FunOk Tryz.prog tab g_spec_l5Put F_spec_l5Put := by
 unfold F_spec_l5Put; rw [lock_eq]
 exact fun_ok fol Tryz.func129 is_spec_l5Put (all_cons ok_spec_l1Min (all_cons ok_spec_l1Max all_nil))
theorem ok_spec_l5Join : FunOk Tryz.prog tab g_spec_l5Join F_spec_l5Join := by
 unfold F_spec_l5Join; rw [lock_eq]
 exact fun_ok fol Tryz.func89 is_spec_l5Join (all_cons ok_spec_l5Copy (all_cons ok_spec_l5Put all_nil))
theorem ok_spec_RowIds : FunOk Tryz.prog tab g_spec_RowIds F_spec_RowIds := by
 unfold F_spec_RowIds; rw [lock_eq]
 exact fun_ok fol Tryz.func150 is_spec_RowIds (all_cons ok_spec_RowOk (all_cons ok_spec_l5Join all_nil))
theorem ok_spec_SetSize : FunOk Tryz.prog tab g_spec_SetSize F_spec_SetSize := by
 unfold F_spec_SetSize; rw [lock_eq]
 exact fun_ok fol Tryz.func54 is_spec_SetSize (all_cons ok_spec_SetOk all_nil)
theorem ok_spec_SeatOk : FunOk Tryz.prog tab g_spec_SeatOk F_spec_SeatOk := by
 unfold F_spec_SeatOk; rw [lock_eq]
 exact fun_ok fol Tryz.func149 is_spec_SeatOk (all_cons ok_spec_l1In (all_cons ok_spec_l1In (all_cons ok_spec_l1In (all_cons ok_spec_l8Below (all_cons ok_spec_SetSize (all_cons ok_spec_l1In (all_cons ok_spec_l1In all_nil)))))))
theorem ok_spec_TurnOk : FunOk Tryz.prog tab g_spec_TurnOk F_spec_TurnOk := by
 unfold F_spec_TurnOk; rw [lock_eq]
 exact fun_ok fol Tryz.func152 is_spec_TurnOk (all_cons ok_spec_l6Agent (all_cons ok_spec_l11Nums all_nil))
theorem ok_spec_l12Parts : FunOk Tryz.prog tab g_spec_l12Parts F_spec_l12Parts := by
 unfold F_spec_l12Parts; rw [lock_eq]
 exact fun_ok fol Tryz.func85 is_spec_l12Parts (all_cons ok_spec_l1In (all_cons ok_spec_l1In (all_cons ok_spec_SeatOk (all_cons ok_spec_RowIds (all_cons ok_spec_RowOk (all_cons ok_spec_l12Of (all_cons ok_spec_SetSize (all_cons ok_spec_TurnOk all_nil))))))))
theorem ok_spec_l1Bit : FunOk Tryz.prog tab g_spec_l1Bit F_spec_l1Bit := by
 unfold F_spec_l1Bit; rw [lock_eq]
 exact fun_ok fol Tryz.func200 is_spec_l1Bit all_nil
theorem ok_spec_l12Gen : FunOk Tryz.prog tab g_spec_l12Gen F_spec_l12Gen := by
 unfold F_spec_l12Gen; rw [lock_eq]
 exact fun_ok fol Tryz.func154 is_spec_l12Gen (all_cons ok_spec_l1Bit all_nil)
theorem ok_spec_l12Root : FunOk Tryz.prog tab g_spec_l12Root F_spec_l12Root := by
 unfold F_spec_l12Root; rw [lock_eq]
 exact fun_ok fol Tryz.func86 is_spec_l12Root (all_cons ok_spec_EntryOk (all_cons ok_spec_EntryOk (all_cons ok_spec_l12Gen all_nil)))
theorem ok_spec_l12Taken : FunOk Tryz.prog tab g_spec_l12Taken F_spec_l12Taken := by
 unfold F_spec_l12Taken; rw [lock_eq]
 exact fun_ok fol Tryz.func90 is_spec_l12Taken (all_cons ok_spec_l5Put all_nil)
theorem ok_spec_l5Same : FunOk Tryz.prog tab g_spec_l5Same F_spec_l5Same := by
 unfold F_spec_l5Same; rw [lock_eq]
 exact fun_ok fol Tryz.func71 is_spec_l5Same all_nil
theorem ok_spec_HouseOk : FunOk Tryz.prog tab g_spec_HouseOk F_spec_HouseOk := by
 unfold F_spec_HouseOk; rw [lock_eq]
 exact fun_ok fol Tryz.func42 is_spec_HouseOk (all_cons ok_spec_ConfOk (all_cons ok_spec_l12Parts (all_cons ok_spec_l12Root (all_cons ok_spec_l12All (all_cons ok_spec_SetApart (all_cons ok_spec_l5Join (all_cons ok_spec_l12Taken (all_cons ok_spec_l5Same (all_cons ok_spec_l12Of (all_cons ok_spec_l12Of all_nil))))))))))
theorem ok_spec_WorldOk : FunOk Tryz.prog tab g_spec_WorldOk F_spec_WorldOk := by
 unfold F_spec_WorldOk; rw [lock_eq]
 exact fun_ok fol Tryz.func15 is_spec_WorldOk (all_cons ok_spec_HouseOk (all_cons ok_spec_AgentOk (all_cons ok_spec_l1In all_nil)))
theorem ok_impl_members : FunOk Tryz.prog tab g_impl_members F_impl_members := by
 unfold F_impl_members; rw [lock_eq]
 exact fun_ok fol Tryz.func66 is_impl_members all_nil
theorem ok_impl_Due : FunOk Tryz.prog tab g_impl_Due F_impl_Due := by
 unfold F_impl_Due; rw [lock_eq]
 exact fun_ok fol Tryz.func67 is_impl_Due (all_cons ok_impl_ConfOk (all_cons ok_impl_within all_nil))
theorem ok_impl_JudgeTold : FunOk Tryz.prog tab g_impl_JudgeTold F_impl_JudgeTold := by
 unfold F_impl_JudgeTold; rw [lock_eq]
 exact fun_ok fol Tryz.func34 is_impl_JudgeTold (all_cons ok_impl_WorldOk (all_cons ok_impl_members (all_cons ok_impl_within (all_cons ok_impl_within (all_cons ok_impl_Due all_nil)))))
theorem ok_spec_Due : FunOk Tryz.prog tab g_spec_Due F_spec_Due := by
 unfold F_spec_Due; rw [lock_eq]
 exact fun_ok fol Tryz.func65 is_spec_Due (all_cons ok_spec_ConfOk (all_cons ok_spec_l1In all_nil))
theorem ok_spec_l19Sealed : FunOk Tryz.prog tab g_spec_l19Sealed F_spec_l19Sealed := by
 unfold F_spec_l19Sealed; rw [lock_eq]
 exact fun_ok fol Tryz.func64 is_spec_l19Sealed (all_cons ok_spec_l6Agent (all_cons ok_spec_l1In all_nil))
theorem ok_spec_JudgeTold : FunOk Tryz.prog tab g_spec_JudgeTold F_spec_JudgeTold := by
 unfold F_spec_JudgeTold; rw [lock_eq]
 exact fun_ok fol Tryz.func33 is_spec_JudgeTold (all_cons ok_spec_WorldOk (all_cons ok_spec_l19Sealed (all_cons ok_spec_Due all_nil)))
theorem ok_laws_FnExactJudgeTold : FunOk Tryz.prog tab g_laws_FnExactJudgeTold F_laws_FnExactJudgeTold := by
 unfold F_laws_FnExactJudgeTold; rw [lock_eq]
 exact fun_ok fol Tryz.func11 is_laws_FnExactJudgeTold (all_cons ok_laws_szWorld (all_cons ok_laws_toWorld (all_cons ok_spec_JudgeTold (all_cons ok_laws_toWorld (all_cons ok_impl_JudgeTold (all_cons ok_laws_toWorld (all_cons ok_laws_eqWorld all_nil)))))))
theorem law_FnExactJudgeTold : ∀ xs, ArgTys [GWorld.ty] xs -> F_laws_FnExactJudgeTold xs = some ⟨[.one (.b true)], []⟩ := by
 intro xs h
 obtain ⟨_, _, rfl, ⟨t0, h0, rfl⟩, h⟩ := h
 obtain rfl := h
 obtain ⟨x0, rfl, f0⟩ := GWorld.of h0
 exact laws_FnExactJudgeTold_eq x0 f0
end Go.Wr
namespace Go.Proofs.YtgckmfadalhddaaGreat
open Go.ChangeShapes Go.WideShapes Go.ChangeAt Go.RowKit Go.Wr
theorem own : ownKnob Tryz.prog.godebug = none := by kernel_rfl
theorem laidOut : laidOutB Tryz.prog = true := fact42
set_option maxRecDepth 100000 in
theorem lifted (os : Os) (started : os.Started) (H : Type) (enc : TypeId × Value -> H) :
  ReturnsInHanded {} Tryz.checked os 11 .any (Rows.fnExactJudgeToldSpec.pre6 enc Tryz.prog Tryz.f11 Rows.fnExactJudgeToldRow.domain false) (Rows.fnExactJudgeToldSpec.post enc Tryz.prog Tryz.f11 false true false false) := by
 refine returnsInHanded_of_change (C := Tryz.checked) own started (by kernel_rfl) Tryz.func11
  (ChangeSpec.witness6 (enc := enc) (C := Tryz.checked) false ⟨#[], #[.agg #[.slice none 0 0, .int .i64 0, .int .i64 0, .int .i64 0, .slice none 0 0, .int .i64 0, .int .i64 0, .int .i64 0, .int .i64 0, .int .i64 0, .bool false, .slice none 0 0, .slice none 0 0, .slice none 0 0, .int .i64 0, .slice none 0 0, .slice none 0 0, .slice none 0 0]], []⟩ 8 (by kernel_rfl) (by kernel_rfl) (by kernel_rfl) (by kernel_rfl)) ?_
 intro W base args ds gs before hval0 hW hcnd _
 have hval : ∀ (j : Nat) t v, Tryz.f11.params[j]? = some t -> args[j]? = some v -> Value.okWide Tryz.prog W .any base t v := hval0
 exact law_contract (es := [GWorld.ty]) laidOut ok_laws_FnExactJudgeTold rfl (by kernel_rfl) (by kernel_rfl) law_FnExactJudgeTold rfl (fun ds h => by
  match ds, h with
  | [a0], _ => rfl) hval hW
theorem fnExactJudgeTold_holds : Rows.FnExactJudgeToldSaid :=
 OpenClaim.holds_of_wide 11 Tryz.f11 rfl rfl rfl rfl rfl rfl rfl ⟨rfl, rfl, rfl, rfl, rfl⟩ rfl rfl rfl rfl rfl (by as_aux_lemma => kernel_rfl) Tryz.func11 closed
  (of_decide_eq_true (by as_aux_lemma => kernel_rfl)) (by unfold Func.isWrapper; first | (rw [if_pos (by as_aux_lemma => decide +kernel)]; kernel_rfl) | (rw [if_neg (by as_aux_lemma => decide +kernel)]; exact ⟨rfl, rfl⟩))
  (fun os started H enc _ => lifted os started H enc)
end Go.Proofs.YtgckmfadalhddaaGreat

