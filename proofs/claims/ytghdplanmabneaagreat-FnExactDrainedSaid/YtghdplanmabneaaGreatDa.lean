/-
  What is proved: the law FnExactDrained returns true for every input and leaves its arguments as they were. No condition.
-/
import Derived.Test.YtghdplanmabneaaGreatCa
import Derived.Test.YtghdplanmabneaaGreatQc
import Derived.Test.YtghdplanmabneaaGreatRc
import Derived.Test.YtghdplanmabneaaGreatRows
import Derived.ProofKit
set_option linter.unusedVariables false
set_option linter.unusedSimpArgs false
namespace Go.Wr
open Go.Proofs
theorem all_nil {q : Nat × Fun → Prop} : ∀ p ∈ ([] : List (Nat × Fun)), q p := fun _ h => by cases h
theorem all_cons {g : Nat} {F : Fun} {q : Nat → Fun → Prop} {l : List (Nat × Fun)} (h : q g F) (hl : ∀ p ∈ l, q p.1 p.2) : ∀ p ∈ (g, F) :: l, q p.1 p.2 := fun p hp => by
  rcases List.mem_cons.1 hp with rfl | hp
  · exact h
  · exact hl p hp
theorem ok_impl_within : FunOk Tryz.prog tab g_impl_within F_impl_within := by
  unfold F_impl_within; rw [lock_eq]
  exact fun_ok fol Tryz.func93 is_impl_within all_nil
theorem ok_impl_IdOf : FunOk Tryz.prog tab g_impl_IdOf F_impl_IdOf := by
  unfold F_impl_IdOf; rw [lock_eq]
  exact fun_ok fol Tryz.func64 is_impl_IdOf (all_cons ok_impl_within (all_cons ok_impl_within all_nil))
theorem ok_impl_SetHas_c1 : FunOk Tryz.prog tab g_impl_SetHas_c1 F_impl_SetHas_c1 := by
  unfold F_impl_SetHas_c1; rw [lock_eq]
  exact fun_ok fol Tryz.func103 is_impl_SetHas_c1 (all_cons ok_impl_within all_nil)
theorem ok_slices_IndexFunc_Simpl_Span : FunOk Tryz.prog tab g_slices_IndexFunc_Simpl_Span F_slices_IndexFunc_Simpl_Span := by
  unfold F_slices_IndexFunc_Simpl_Span; rw [lock_eq]
  exact fun_ok fol Tryz.func122 is_slices_IndexFunc_Simpl_Span (all_cons ok_impl_SetHas_c1 all_nil)
theorem ok_slices_ContainsFunc_Simpl_Span : FunOk Tryz.prog tab g_slices_ContainsFunc_Simpl_Span F_slices_ContainsFunc_Simpl_Span := by
  unfold F_slices_ContainsFunc_Simpl_Span; rw [lock_eq]
  exact fun_ok fol Tryz.func102 is_slices_ContainsFunc_Simpl_Span (all_cons ok_slices_IndexFunc_Simpl_Span all_nil)
theorem ok_impl_SetHas : FunOk Tryz.prog tab g_impl_SetHas F_impl_SetHas := by
  unfold F_impl_SetHas; rw [lock_eq]
  exact fun_ok fol Tryz.func63 is_impl_SetHas (all_cons ok_slices_ContainsFunc_Simpl_Span all_nil)
theorem ok_impl_added : FunOk Tryz.prog tab g_impl_added F_impl_added := by
  unfold F_impl_added; rw [lock_eq]
  exact fun_ok fol Tryz.func61 is_impl_added all_nil
theorem ok_impl_SetOk : FunOk Tryz.prog tab g_impl_SetOk F_impl_SetOk := by
  unfold F_impl_SetOk; rw [lock_eq]
  exact fun_ok fol Tryz.func120 is_impl_SetOk (all_cons ok_impl_within (all_cons ok_impl_within all_nil))
theorem ok_impl_copyInts : FunOk Tryz.prog tab g_impl_copyInts F_impl_copyInts := by
  unfold F_impl_copyInts; rw [lock_eq]
  exact fun_ok fol Tryz.func140 is_impl_copyInts all_nil
theorem ok_impl_counts : FunOk Tryz.prog tab g_impl_counts F_impl_counts := by
  unfold F_impl_counts; rw [lock_eq]
  exact fun_ok fol Tryz.func129 is_impl_counts (all_cons ok_impl_copyInts all_nil)
theorem ok_impl_SketchOk : FunOk Tryz.prog tab g_impl_SketchOk F_impl_SketchOk := by
  unfold F_impl_SketchOk; rw [lock_eq]
  exact fun_ok fol Tryz.func121 is_impl_SketchOk (all_cons ok_impl_counts (all_cons ok_impl_within all_nil))
theorem ok_impl_EntryOk : FunOk Tryz.prog tab g_impl_EntryOk F_impl_EntryOk := by
  unfold F_impl_EntryOk; rw [lock_eq]
  exact fun_ok fol Tryz.func100 is_impl_EntryOk (all_cons ok_impl_within (all_cons ok_impl_within (all_cons ok_impl_SetOk (all_cons ok_impl_SketchOk all_nil))))
theorem ok_impl_SetApart : FunOk Tryz.prog tab g_impl_SetApart F_impl_SetApart := by
  unfold F_impl_SetApart; rw [lock_eq]
  exact fun_ok fol Tryz.func101 is_impl_SetApart (all_cons ok_impl_SetOk (all_cons ok_impl_SetOk all_nil))
theorem ok_impl_apart : FunOk Tryz.prog tab g_impl_apart F_impl_apart := by
  unfold F_impl_apart; rw [lock_eq]
  exact fun_ok fol Tryz.func59 is_impl_apart (all_cons ok_impl_EntryOk (all_cons ok_impl_SetApart all_nil))
theorem ok_impl_copySet : FunOk Tryz.prog tab g_impl_copySet F_impl_copySet := by
  unfold F_impl_copySet; rw [lock_eq]
  exact fun_ok fol Tryz.func104 is_impl_copySet all_nil
theorem ok_cmp_isNaN_int : FunOk Tryz.prog tab g_cmp_isNaN_int F_cmp_isNaN_int := by
  unfold F_cmp_isNaN_int; rw [lock_eq]
  exact fun_ok fol Tryz.func125 is_cmp_isNaN_int all_nil
theorem ok_cmp_Compare_int : FunOk Tryz.prog tab g_cmp_Compare_int F_cmp_Compare_int := by
  unfold F_cmp_Compare_int; rw [lock_eq]
  exact fun_ok fol Tryz.func107 is_cmp_Compare_int (all_cons ok_cmp_isNaN_int (all_cons ok_cmp_isNaN_int all_nil))
theorem ok_impl_union_c1 : FunOk Tryz.prog tab g_impl_union_c1 F_impl_union_c1 := by
  unfold F_impl_union_c1; rw [lock_eq]
  exact fun_ok fol Tryz.func106 is_impl_union_c1 (all_cons ok_cmp_Compare_int all_nil)
theorem ok_impl_union : FunOk Tryz.prog tab g_impl_union F_impl_union := by
  unfold F_impl_union; rw [lock_eq]
  exact fun_ok fol Tryz.func66 is_impl_union (all_cons ok_impl_copySet (all_cons ok_slices_SortFunc_Simpl_Span all_nil))
theorem ok_impl_idsOf : FunOk Tryz.prog tab g_impl_idsOf F_impl_idsOf := by
  unfold F_impl_idsOf; rw [lock_eq]
  exact fun_ok fol Tryz.func62 is_impl_idsOf (all_cons ok_impl_union all_nil)
theorem ok_impl_allWithin : FunOk Tryz.prog tab g_impl_allWithin F_impl_allWithin := by
  unfold F_impl_allWithin; rw [lock_eq]
  exact fun_ok fol Tryz.func118 is_impl_allWithin (all_cons ok_impl_within all_nil)
theorem ok_impl_ConfOk : FunOk Tryz.prog tab g_impl_ConfOk F_impl_ConfOk := by
  unfold F_impl_ConfOk; rw [lock_eq]
  exact fun_ok fol Tryz.func92 is_impl_ConfOk (all_cons ok_impl_within (all_cons ok_impl_within (all_cons ok_impl_within (all_cons ok_impl_allWithin (all_cons ok_impl_within (all_cons ok_impl_within (all_cons ok_impl_within (all_cons ok_impl_within all_nil))))))))
theorem ok_impl_RowOk : FunOk Tryz.prog tab g_impl_RowOk F_impl_RowOk := by
  unfold F_impl_RowOk; rw [lock_eq]
  exact fun_ok fol Tryz.func95 is_impl_RowOk (all_cons ok_impl_apart all_nil)
theorem ok_impl_RowIds : FunOk Tryz.prog tab g_impl_RowIds F_impl_RowIds := by
  unfold F_impl_RowIds; rw [lock_eq]
  exact fun_ok fol Tryz.func97 is_impl_RowIds (all_cons ok_impl_RowOk (all_cons ok_impl_idsOf all_nil))
theorem ok_impl_SetSize : FunOk Tryz.prog tab g_impl_SetSize F_impl_SetSize := by
  unfold F_impl_SetSize; rw [lock_eq]
  exact fun_ok fol Tryz.func119 is_impl_SetSize (all_cons ok_impl_SetOk all_nil)
theorem ok_impl_allIn : FunOk Tryz.prog tab g_impl_allIn F_impl_allIn := by
  unfold F_impl_allIn; rw [lock_eq]
  exact fun_ok fol Tryz.func96 is_impl_allIn (all_cons ok_impl_SetOk all_nil)
theorem ok_impl_SeatOk : FunOk Tryz.prog tab g_impl_SeatOk F_impl_SeatOk := by
  unfold F_impl_SeatOk; rw [lock_eq]
  exact fun_ok fol Tryz.func94 is_impl_SeatOk (all_cons ok_impl_within (all_cons ok_impl_within (all_cons ok_impl_within (all_cons ok_impl_allIn (all_cons ok_impl_SetSize (all_cons ok_impl_within (all_cons ok_impl_within all_nil)))))))
theorem ok_impl_TurnOk : FunOk Tryz.prog tab g_impl_TurnOk F_impl_TurnOk := by
  unfold F_impl_TurnOk; rw [lock_eq]
  exact fun_ok fol Tryz.func98 is_impl_TurnOk (all_cons ok_impl_within (all_cons ok_impl_allWithin all_nil))
theorem ok_impl_ahead : FunOk Tryz.prog tab g_impl_ahead F_impl_ahead := by
  unfold F_impl_ahead; rw [lock_eq]
  exact fun_ok fol Tryz.func99 is_impl_ahead all_nil
theorem ok_impl_partsOk : FunOk Tryz.prog tab g_impl_partsOk F_impl_partsOk := by
  unfold F_impl_partsOk; rw [lock_eq]
  exact fun_ok fol Tryz.func58 is_impl_partsOk (all_cons ok_impl_ConfOk (all_cons ok_impl_within (all_cons ok_impl_within (all_cons ok_impl_SeatOk (all_cons ok_impl_RowOk (all_cons ok_impl_RowIds (all_cons ok_impl_IdOf (all_cons ok_impl_IdOf (all_cons ok_impl_allIn (all_cons ok_impl_TurnOk (all_cons ok_impl_ahead all_nil)))))))))))
theorem ok_impl_rowEntries : FunOk Tryz.prog tab g_impl_rowEntries F_impl_rowEntries := by
  unfold F_impl_rowEntries; rw [lock_eq]
  exact fun_ok fol Tryz.func60 is_impl_rowEntries all_nil
theorem ok_impl_told : FunOk Tryz.prog tab g_impl_told F_impl_told := by
  unfold F_impl_told; rw [lock_eq]
  exact fun_ok fol Tryz.func27 is_impl_told all_nil
theorem ok_slices_Equal_Simpl_Span : FunOk Tryz.prog tab g_slices_Equal_Simpl_Span F_slices_Equal_Simpl_Span := by
  unfold F_slices_Equal_Simpl_Span; rw [lock_eq]
  exact fun_ok fol Tryz.func65 is_slices_Equal_Simpl_Span all_nil
theorem ok_impl_HouseOk : FunOk Tryz.prog tab g_impl_HouseOk F_impl_HouseOk := by
  unfold F_impl_HouseOk; rw [lock_eq]
  exact fun_ok fol Tryz.func26 is_impl_HouseOk (all_cons ok_impl_partsOk (all_cons ok_impl_rowEntries (all_cons ok_impl_added (all_cons ok_impl_apart (all_cons ok_impl_added (all_cons ok_impl_idsOf (all_cons ok_impl_IdOf (all_cons ok_impl_SetHas (all_cons ok_impl_IdOf (all_cons ok_impl_IdOf (all_cons ok_impl_union (all_cons ok_impl_rowEntries (all_cons ok_impl_added (all_cons ok_impl_idsOf (all_cons ok_slices_Equal_Simpl_Span (all_cons ok_impl_told all_nil))))))))))))))))
theorem ok_impl_Told : FunOk Tryz.prog tab g_impl_Told F_impl_Told := by
  unfold F_impl_Told; rw [lock_eq]
  exact fun_ok fol Tryz.func8 is_impl_Told (all_cons ok_impl_HouseOk (all_cons ok_impl_told all_nil))
theorem ok_laws_eqIntS : FunOk Tryz.prog tab g_laws_eqIntS F_laws_eqIntS := by
  unfold F_laws_eqIntS; rw [lock_eq]
  exact fun_ok fol Tryz.func67 is_laws_eqIntS all_nil
theorem ok_laws_eqConf : FunOk Tryz.prog tab g_laws_eqConf F_laws_eqConf := by
  unfold F_laws_eqConf; rw [lock_eq]
  exact fun_ok fol Tryz.func28 is_laws_eqConf (all_cons ok_laws_eqIntS all_nil)
theorem ok_laws_eqIntSS : FunOk Tryz.prog tab g_laws_eqIntSS F_laws_eqIntSS := by
  unfold F_laws_eqIntSS; rw [lock_eq]
  exact fun_ok fol Tryz.func127 is_laws_eqIntSS (all_cons ok_laws_eqIntS all_nil)
theorem ok_laws_eqSketch : FunOk Tryz.prog tab g_laws_eqSketch F_laws_eqSketch := by
  unfold F_laws_eqSketch; rw [lock_eq]
  exact fun_ok fol Tryz.func110 is_laws_eqSketch (all_cons ok_laws_eqIntS (all_cons ok_laws_eqIntS (all_cons ok_laws_eqIntSS all_nil)))
theorem ok_laws_eqSpan : FunOk Tryz.prog tab g_laws_eqSpan F_laws_eqSpan := by
  unfold F_laws_eqSpan; rw [lock_eq]
  exact fun_ok fol Tryz.func126 is_laws_eqSpan all_nil
theorem ok_laws_eqSpanS : FunOk Tryz.prog tab g_laws_eqSpanS F_laws_eqSpanS := by
  unfold F_laws_eqSpanS; rw [lock_eq]
  exact fun_ok fol Tryz.func108 is_laws_eqSpanS (all_cons ok_laws_eqSpan all_nil)
theorem ok_laws_eqEntry : FunOk Tryz.prog tab g_laws_eqEntry F_laws_eqEntry := by
  unfold F_laws_eqEntry; rw [lock_eq]
  exact fun_ok fol Tryz.func71 is_laws_eqEntry (all_cons ok_laws_eqSpanS (all_cons ok_laws_eqSketch all_nil))
theorem ok_laws_eqEntryS : FunOk Tryz.prog tab g_laws_eqEntryS F_laws_eqEntryS := by
  unfold F_laws_eqEntryS; rw [lock_eq]
  exact fun_ok fol Tryz.func32 is_laws_eqEntryS (all_cons ok_laws_eqEntry all_nil)
theorem ok_laws_eqOut : FunOk Tryz.prog tab g_laws_eqOut F_laws_eqOut := by
  unfold F_laws_eqOut; rw [lock_eq]
  exact fun_ok fol Tryz.func72 is_laws_eqOut (all_cons ok_laws_eqEntry all_nil)
theorem ok_laws_eqOutS : FunOk Tryz.prog tab g_laws_eqOutS F_laws_eqOutS := by
  unfold F_laws_eqOutS; rw [lock_eq]
  exact fun_ok fol Tryz.func33 is_laws_eqOutS (all_cons ok_laws_eqOut all_nil)
theorem ok_laws_eqRow : FunOk Tryz.prog tab g_laws_eqRow F_laws_eqRow := by
  unfold F_laws_eqRow; rw [lock_eq]
  exact fun_ok fol Tryz.func109 is_laws_eqRow (all_cons ok_laws_eqEntryS all_nil)
theorem ok_laws_eqRowS : FunOk Tryz.prog tab g_laws_eqRowS F_laws_eqRowS := by
  unfold F_laws_eqRowS; rw [lock_eq]
  exact fun_ok fol Tryz.func69 is_laws_eqRowS (all_cons ok_laws_eqRow all_nil)
theorem ok_laws_eqRowSS : FunOk Tryz.prog tab g_laws_eqRowSS F_laws_eqRowSS := by
  unfold F_laws_eqRowSS; rw [lock_eq]
  exact fun_ok fol Tryz.func30 is_laws_eqRowSS (all_cons ok_laws_eqRowS all_nil)
theorem ok_laws_eqSeat : FunOk Tryz.prog tab g_laws_eqSeat F_laws_eqSeat := by
  unfold F_laws_eqSeat; rw [lock_eq]
  exact fun_ok fol Tryz.func68 is_laws_eqSeat (all_cons ok_laws_eqSpanS all_nil)
theorem ok_laws_eqSeatS : FunOk Tryz.prog tab g_laws_eqSeatS F_laws_eqSeatS := by
  unfold F_laws_eqSeatS; rw [lock_eq]
  exact fun_ok fol Tryz.func29 is_laws_eqSeatS (all_cons ok_laws_eqSeat all_nil)
theorem ok_laws_eqTurn : FunOk Tryz.prog tab g_laws_eqTurn F_laws_eqTurn := by
  unfold F_laws_eqTurn; rw [lock_eq]
  exact fun_ok fol Tryz.func70 is_laws_eqTurn (all_cons ok_laws_eqIntS all_nil)
theorem ok_laws_eqTurnS : FunOk Tryz.prog tab g_laws_eqTurnS F_laws_eqTurnS := by
  unfold F_laws_eqTurnS; rw [lock_eq]
  exact fun_ok fol Tryz.func31 is_laws_eqTurnS (all_cons ok_laws_eqTurn all_nil)
theorem ok_laws_eqHouse : FunOk Tryz.prog tab g_laws_eqHouse F_laws_eqHouse := by
  unfold F_laws_eqHouse; rw [lock_eq]
  exact fun_ok fol Tryz.func9 is_laws_eqHouse (all_cons ok_laws_eqConf (all_cons ok_laws_eqSeatS (all_cons ok_laws_eqRowSS (all_cons ok_laws_eqTurnS (all_cons ok_laws_eqEntryS (all_cons ok_laws_eqOutS all_nil))))))
theorem ok_laws_szIntS : FunOk Tryz.prog tab g_laws_szIntS F_laws_szIntS := by
  unfold F_laws_szIntS; rw [lock_eq]
  exact fun_ok fol Tryz.func36 is_laws_szIntS all_nil
theorem ok_laws_szConf : FunOk Tryz.prog tab g_laws_szConf F_laws_szConf := by
  unfold F_laws_szConf; rw [lock_eq]
  exact fun_ok fol Tryz.func12 is_laws_szConf (all_cons ok_laws_szIntS all_nil)
theorem ok_laws_szIntSS : FunOk Tryz.prog tab g_laws_szIntSS F_laws_szIntSS := by
  unfold F_laws_szIntSS; rw [lock_eq]
  exact fun_ok fol Tryz.func111 is_laws_szIntSS (all_cons ok_laws_szIntS all_nil)
theorem ok_laws_szSketch : FunOk Tryz.prog tab g_laws_szSketch F_laws_szSketch := by
  unfold F_laws_szSketch; rw [lock_eq]
  exact fun_ok fol Tryz.func75 is_laws_szSketch (all_cons ok_laws_szIntS (all_cons ok_laws_szIntS (all_cons ok_laws_szIntSS all_nil)))
theorem ok_laws_szSpanS : FunOk Tryz.prog tab g_laws_szSpanS F_laws_szSpanS := by
  unfold F_laws_szSpanS; rw [lock_eq]
  exact fun_ok fol Tryz.func73 is_laws_szSpanS all_nil
theorem ok_laws_szEntry : FunOk Tryz.prog tab g_laws_szEntry F_laws_szEntry := by
  unfold F_laws_szEntry; rw [lock_eq]
  exact fun_ok fol Tryz.func40 is_laws_szEntry (all_cons ok_laws_szSpanS (all_cons ok_laws_szSketch all_nil))
theorem ok_laws_szEntryS : FunOk Tryz.prog tab g_laws_szEntryS F_laws_szEntryS := by
  unfold F_laws_szEntryS; rw [lock_eq]
  exact fun_ok fol Tryz.func16 is_laws_szEntryS (all_cons ok_laws_szEntry all_nil)
theorem ok_laws_szOut : FunOk Tryz.prog tab g_laws_szOut F_laws_szOut := by
  unfold F_laws_szOut; rw [lock_eq]
  exact fun_ok fol Tryz.func41 is_laws_szOut (all_cons ok_laws_szEntry all_nil)
theorem ok_laws_szOutS : FunOk Tryz.prog tab g_laws_szOutS F_laws_szOutS := by
  unfold F_laws_szOutS; rw [lock_eq]
  exact fun_ok fol Tryz.func17 is_laws_szOutS (all_cons ok_laws_szOut all_nil)
theorem ok_laws_szRow : FunOk Tryz.prog tab g_laws_szRow F_laws_szRow := by
  unfold F_laws_szRow; rw [lock_eq]
  exact fun_ok fol Tryz.func74 is_laws_szRow (all_cons ok_laws_szEntryS all_nil)
theorem ok_laws_szRowS : FunOk Tryz.prog tab g_laws_szRowS F_laws_szRowS := by
  unfold F_laws_szRowS; rw [lock_eq]
  exact fun_ok fol Tryz.func38 is_laws_szRowS (all_cons ok_laws_szRow all_nil)
theorem ok_laws_szRowSS : FunOk Tryz.prog tab g_laws_szRowSS F_laws_szRowSS := by
  unfold F_laws_szRowSS; rw [lock_eq]
  exact fun_ok fol Tryz.func14 is_laws_szRowSS (all_cons ok_laws_szRowS all_nil)
theorem ok_laws_szSeat : FunOk Tryz.prog tab g_laws_szSeat F_laws_szSeat := by
  unfold F_laws_szSeat; rw [lock_eq]
  exact fun_ok fol Tryz.func37 is_laws_szSeat (all_cons ok_laws_szSpanS all_nil)
theorem ok_laws_szSeatS : FunOk Tryz.prog tab g_laws_szSeatS F_laws_szSeatS := by
  unfold F_laws_szSeatS; rw [lock_eq]
  exact fun_ok fol Tryz.func13 is_laws_szSeatS (all_cons ok_laws_szSeat all_nil)
theorem ok_laws_szTurn : FunOk Tryz.prog tab g_laws_szTurn F_laws_szTurn := by
  unfold F_laws_szTurn; rw [lock_eq]
  exact fun_ok fol Tryz.func39 is_laws_szTurn (all_cons ok_laws_szIntS all_nil)
theorem ok_laws_szTurnS : FunOk Tryz.prog tab g_laws_szTurnS F_laws_szTurnS := by
  unfold F_laws_szTurnS; rw [lock_eq]
  exact fun_ok fol Tryz.func15 is_laws_szTurnS (all_cons ok_laws_szTurn all_nil)
theorem ok_laws_szHouse : FunOk Tryz.prog tab g_laws_szHouse F_laws_szHouse := by
  unfold F_laws_szHouse; rw [lock_eq]
  exact fun_ok fol Tryz.func5 is_laws_szHouse (all_cons ok_laws_szConf (all_cons ok_laws_szSeatS (all_cons ok_laws_szRowSS (all_cons ok_laws_szTurnS (all_cons ok_laws_szEntryS (all_cons ok_laws_szOutS all_nil))))))
theorem ok_laws_toIntS : FunOk Tryz.prog tab g_laws_toIntS F_laws_toIntS := by
  unfold F_laws_toIntS; rw [lock_eq]
  exact fun_ok fol Tryz.func52 is_laws_toIntS all_nil
theorem ok_laws_toConf : FunOk Tryz.prog tab g_laws_toConf F_laws_toConf := by
  unfold F_laws_toConf; rw [lock_eq]
  exact fun_ok fol Tryz.func20 is_laws_toConf (all_cons ok_laws_toIntS all_nil)
theorem ok_laws_toIntSS : FunOk Tryz.prog tab g_laws_toIntSS F_laws_toIntSS := by
  unfold F_laws_toIntSS; rw [lock_eq]
  exact fun_ok fol Tryz.func117 is_laws_toIntSS (all_cons ok_laws_toIntS all_nil)
theorem ok_laws_toSketch : FunOk Tryz.prog tab g_laws_toSketch F_laws_toSketch := by
  unfold F_laws_toSketch; rw [lock_eq]
  exact fun_ok fol Tryz.func91 is_laws_toSketch (all_cons ok_laws_toIntS (all_cons ok_laws_toIntS (all_cons ok_laws_toIntSS all_nil)))
theorem ok_laws_toSpan : FunOk Tryz.prog tab g_laws_toSpan F_laws_toSpan := by
  unfold F_laws_toSpan; rw [lock_eq]
  exact fun_ok fol Tryz.func116 is_laws_toSpan all_nil
theorem ok_laws_toSpanS : FunOk Tryz.prog tab g_laws_toSpanS F_laws_toSpanS := by
  unfold F_laws_toSpanS; rw [lock_eq]
  exact fun_ok fol Tryz.func89 is_laws_toSpanS (all_cons ok_laws_toSpan all_nil)
theorem ok_laws_toEntry : FunOk Tryz.prog tab g_laws_toEntry F_laws_toEntry := by
  unfold F_laws_toEntry; rw [lock_eq]
  exact fun_ok fol Tryz.func56 is_laws_toEntry (all_cons ok_laws_toSpanS (all_cons ok_laws_toSketch all_nil))
theorem ok_laws_toEntryS : FunOk Tryz.prog tab g_laws_toEntryS F_laws_toEntryS := by
  unfold F_laws_toEntryS; rw [lock_eq]
  exact fun_ok fol Tryz.func24 is_laws_toEntryS (all_cons ok_laws_toEntry all_nil)
theorem ok_laws_toOut : FunOk Tryz.prog tab g_laws_toOut F_laws_toOut := by
  unfold F_laws_toOut; rw [lock_eq]
  exact fun_ok fol Tryz.func57 is_laws_toOut (all_cons ok_laws_toEntry all_nil)
theorem ok_laws_toOutS : FunOk Tryz.prog tab g_laws_toOutS F_laws_toOutS := by
  unfold F_laws_toOutS; rw [lock_eq]
  exact fun_ok fol Tryz.func25 is_laws_toOutS (all_cons ok_laws_toOut all_nil)
theorem ok_laws_toRow : FunOk Tryz.prog tab g_laws_toRow F_laws_toRow := by
  unfold F_laws_toRow; rw [lock_eq]
  exact fun_ok fol Tryz.func90 is_laws_toRow (all_cons ok_laws_toEntryS all_nil)
theorem ok_laws_toRowS : FunOk Tryz.prog tab g_laws_toRowS F_laws_toRowS := by
  unfold F_laws_toRowS; rw [lock_eq]
  exact fun_ok fol Tryz.func54 is_laws_toRowS (all_cons ok_laws_toRow all_nil)
theorem ok_laws_toRowSS : FunOk Tryz.prog tab g_laws_toRowSS F_laws_toRowSS := by
  unfold F_laws_toRowSS; rw [lock_eq]
  exact fun_ok fol Tryz.func22 is_laws_toRowSS (all_cons ok_laws_toRowS all_nil)
theorem ok_laws_toSeat : FunOk Tryz.prog tab g_laws_toSeat F_laws_toSeat := by
  unfold F_laws_toSeat; rw [lock_eq]
  exact fun_ok fol Tryz.func53 is_laws_toSeat (all_cons ok_laws_toSpanS all_nil)
theorem ok_laws_toSeatS : FunOk Tryz.prog tab g_laws_toSeatS F_laws_toSeatS := by
  unfold F_laws_toSeatS; rw [lock_eq]
  exact fun_ok fol Tryz.func21 is_laws_toSeatS (all_cons ok_laws_toSeat all_nil)
theorem ok_laws_toTurn : FunOk Tryz.prog tab g_laws_toTurn F_laws_toTurn := by
  unfold F_laws_toTurn; rw [lock_eq]
  exact fun_ok fol Tryz.func55 is_laws_toTurn (all_cons ok_laws_toIntS all_nil)
theorem ok_laws_toTurnS : FunOk Tryz.prog tab g_laws_toTurnS F_laws_toTurnS := by
  unfold F_laws_toTurnS; rw [lock_eq]
  exact fun_ok fol Tryz.func23 is_laws_toTurnS (all_cons ok_laws_toTurn all_nil)
theorem ok_laws_toHouse : FunOk Tryz.prog tab g_laws_toHouse F_laws_toHouse := by
  unfold F_laws_toHouse; rw [lock_eq]
  exact fun_ok fol Tryz.func7 is_laws_toHouse (all_cons ok_laws_toConf (all_cons ok_laws_toSeatS (all_cons ok_laws_toRowSS (all_cons ok_laws_toTurnS (all_cons ok_laws_toEntryS (all_cons ok_laws_toOutS all_nil))))))
theorem ok_spec_l1In : FunOk Tryz.prog tab g_spec_l1In F_spec_l1In := by
  unfold F_spec_l1In; rw [lock_eq]
  exact fun_ok fol Tryz.func76 is_spec_l1In all_nil
theorem ok_spec_l11Nums : FunOk Tryz.prog tab g_spec_l11Nums F_spec_l11Nums := by
  unfold F_spec_l11Nums; rw [lock_eq]
  exact fun_ok fol Tryz.func77 is_spec_l11Nums (all_cons ok_spec_l1In all_nil)
theorem ok_spec_ConfOk : FunOk Tryz.prog tab g_spec_ConfOk F_spec_ConfOk := by
  unfold F_spec_ConfOk; rw [lock_eq]
  exact fun_ok fol Tryz.func42 is_spec_ConfOk (all_cons ok_spec_l1In (all_cons ok_spec_l1In (all_cons ok_spec_l1In (all_cons ok_spec_l11Nums (all_cons ok_spec_l1In (all_cons ok_spec_l1In (all_cons ok_spec_l1In (all_cons ok_spec_l1In all_nil))))))))
theorem ok_spec_SetOk : FunOk Tryz.prog tab g_spec_SetOk F_spec_SetOk := by
  unfold F_spec_SetOk; rw [lock_eq]
  exact fun_ok fol Tryz.func84 is_spec_SetOk (all_cons ok_spec_l1In (all_cons ok_spec_l1In all_nil))
theorem ok_spec_SetApart : FunOk Tryz.prog tab g_spec_SetApart F_spec_SetApart := by
  unfold F_spec_SetApart; rw [lock_eq]
  exact fun_ok fol Tryz.func46 is_spec_SetApart (all_cons ok_spec_SetOk (all_cons ok_spec_SetOk all_nil))
theorem ok_spec_l12All : FunOk Tryz.prog tab g_spec_l12All F_spec_l12All := by
  unfold F_spec_l12All; rw [lock_eq]
  exact fun_ok fol Tryz.func45 is_spec_l12All all_nil
theorem ok_spec_l1Max : FunOk Tryz.prog tab g_spec_l1Max F_spec_l1Max := by
  unfold F_spec_l1Max; rw [lock_eq]
  exact fun_ok fol Tryz.func87 is_spec_l1Max all_nil
theorem ok_spec_l1Min : FunOk Tryz.prog tab g_spec_l1Min F_spec_l1Min := by
  unfold F_spec_l1Min; rw [lock_eq]
  exact fun_ok fol Tryz.func88 is_spec_l1Min all_nil
theorem ok_spec_l12Of : FunOk Tryz.prog tab g_spec_l12Of F_spec_l12Of := by
  unfold F_spec_l12Of; rw [lock_eq]
  exact fun_ok fol Tryz.func50 is_spec_l12Of (all_cons ok_spec_l1Max (all_cons ok_spec_l1Min (all_cons ok_spec_l1Max all_nil)))
theorem ok_spec_l3List : FunOk Tryz.prog tab g_spec_l3List F_spec_l3List := by
  unfold F_spec_l3List; rw [lock_eq]
  exact fun_ok fol Tryz.func128 is_spec_l3List (all_cons ok_spec_l1In all_nil)
theorem ok_spec_SketchOk : FunOk Tryz.prog tab g_spec_SketchOk F_spec_SketchOk := by
  unfold F_spec_SketchOk; rw [lock_eq]
  exact fun_ok fol Tryz.func115 is_spec_SketchOk (all_cons ok_spec_l1In (all_cons ok_spec_l1In (all_cons ok_spec_l1In (all_cons ok_spec_l1In (all_cons ok_spec_l3List (all_cons ok_spec_l3List (all_cons ok_spec_l3List (all_cons ok_spec_l3List all_nil))))))))
theorem ok_spec_l6Place : FunOk Tryz.prog tab g_spec_l6Place F_spec_l6Place := by
  unfold F_spec_l6Place; rw [lock_eq]
  exact fun_ok fol Tryz.func114 is_spec_l6Place (all_cons ok_spec_l1In (all_cons ok_spec_l1In all_nil))
theorem ok_spec_EntryOk : FunOk Tryz.prog tab g_spec_EntryOk F_spec_EntryOk := by
  unfold F_spec_EntryOk; rw [lock_eq]
  exact fun_ok fol Tryz.func83 is_spec_EntryOk (all_cons ok_spec_l6Place (all_cons ok_spec_SetOk (all_cons ok_spec_SketchOk all_nil)))
theorem ok_spec_RowOk : FunOk Tryz.prog tab g_spec_RowOk F_spec_RowOk := by
  unfold F_spec_RowOk; rw [lock_eq]
  exact fun_ok fol Tryz.func80 is_spec_RowOk (all_cons ok_spec_EntryOk (all_cons ok_spec_SetApart all_nil))
theorem ok_spec_l5Copy : FunOk Tryz.prog tab g_spec_l5Copy F_spec_l5Copy := by
  unfold F_spec_l5Copy; rw [lock_eq]
  exact fun_ok fol Tryz.func85 is_spec_l5Copy all_nil
theorem ok_spec_l5Put : FunOk Tryz.prog tab g_spec_l5Put F_spec_l5Put := by
  unfold F_spec_l5Put; rw [lock_eq]
  exact fun_ok fol Tryz.func86 is_spec_l5Put (all_cons ok_spec_l1Min (all_cons ok_spec_l1Max all_nil))
theorem ok_spec_l5Join : FunOk Tryz.prog tab g_spec_l5Join F_spec_l5Join := by
  unfold F_spec_l5Join; rw [lock_eq]
  exact fun_ok fol Tryz.func47 is_spec_l5Join (all_cons ok_spec_l5Copy (all_cons ok_spec_l5Put all_nil))
theorem ok_spec_RowIds : FunOk Tryz.prog tab g_spec_RowIds F_spec_RowIds := by
  unfold F_spec_RowIds; rw [lock_eq]
  exact fun_ok fol Tryz.func79 is_spec_RowIds (all_cons ok_spec_RowOk (all_cons ok_spec_l5Join all_nil))
theorem ok_spec_SetSize : FunOk Tryz.prog tab g_spec_SetSize F_spec_SetSize := by
  unfold F_spec_SetSize; rw [lock_eq]
  exact fun_ok fol Tryz.func81 is_spec_SetSize (all_cons ok_spec_SetOk all_nil)
theorem ok_spec_l8Below : FunOk Tryz.prog tab g_spec_l8Below F_spec_l8Below := by
  unfold F_spec_l8Below; rw [lock_eq]
  exact fun_ok fol Tryz.func112 is_spec_l8Below (all_cons ok_spec_SetOk all_nil)
theorem ok_spec_SeatOk : FunOk Tryz.prog tab g_spec_SeatOk F_spec_SeatOk := by
  unfold F_spec_SeatOk; rw [lock_eq]
  exact fun_ok fol Tryz.func78 is_spec_SeatOk (all_cons ok_spec_l1In (all_cons ok_spec_l1In (all_cons ok_spec_l1In (all_cons ok_spec_l8Below (all_cons ok_spec_SetSize (all_cons ok_spec_l1In (all_cons ok_spec_l1In all_nil)))))))
theorem ok_spec_l6Agent : FunOk Tryz.prog tab g_spec_l6Agent F_spec_l6Agent := by
  unfold F_spec_l6Agent; rw [lock_eq]
  exact fun_ok fol Tryz.func113 is_spec_l6Agent (all_cons ok_spec_l1In all_nil)
theorem ok_spec_TurnOk : FunOk Tryz.prog tab g_spec_TurnOk F_spec_TurnOk := by
  unfold F_spec_TurnOk; rw [lock_eq]
  exact fun_ok fol Tryz.func82 is_spec_TurnOk (all_cons ok_spec_l6Agent (all_cons ok_spec_l11Nums all_nil))
theorem ok_spec_l12Parts : FunOk Tryz.prog tab g_spec_l12Parts F_spec_l12Parts := by
  unfold F_spec_l12Parts; rw [lock_eq]
  exact fun_ok fol Tryz.func43 is_spec_l12Parts (all_cons ok_spec_l1In (all_cons ok_spec_l1In (all_cons ok_spec_SeatOk (all_cons ok_spec_RowIds (all_cons ok_spec_RowOk (all_cons ok_spec_l12Of (all_cons ok_spec_SetSize (all_cons ok_spec_TurnOk all_nil))))))))
theorem ok_spec_l1Bit : FunOk Tryz.prog tab g_spec_l1Bit F_spec_l1Bit := by
  unfold F_spec_l1Bit; rw [lock_eq]
  exact fun_ok fol Tryz.func51 is_spec_l1Bit all_nil
theorem ok_spec_l12Gen : FunOk Tryz.prog tab g_spec_l12Gen F_spec_l12Gen := by
  unfold F_spec_l12Gen; rw [lock_eq]
  exact fun_ok fol Tryz.func19 is_spec_l12Gen (all_cons ok_spec_l1Bit all_nil)
theorem ok_spec_l12Root : FunOk Tryz.prog tab g_spec_l12Root F_spec_l12Root := by
  unfold F_spec_l12Root; rw [lock_eq]
  exact fun_ok fol Tryz.func44 is_spec_l12Root (all_cons ok_spec_EntryOk (all_cons ok_spec_EntryOk (all_cons ok_spec_l12Gen all_nil)))
theorem ok_spec_l12Taken : FunOk Tryz.prog tab g_spec_l12Taken F_spec_l12Taken := by
  unfold F_spec_l12Taken; rw [lock_eq]
  exact fun_ok fol Tryz.func49 is_spec_l12Taken (all_cons ok_spec_l5Put all_nil)
theorem ok_spec_l5Same : FunOk Tryz.prog tab g_spec_l5Same F_spec_l5Same := by
  unfold F_spec_l5Same; rw [lock_eq]
  exact fun_ok fol Tryz.func48 is_spec_l5Same all_nil
theorem ok_spec_HouseOk : FunOk Tryz.prog tab g_spec_HouseOk F_spec_HouseOk := by
  unfold F_spec_HouseOk; rw [lock_eq]
  exact fun_ok fol Tryz.func18 is_spec_HouseOk (all_cons ok_spec_ConfOk (all_cons ok_spec_l12Parts (all_cons ok_spec_l12Root (all_cons ok_spec_l12All (all_cons ok_spec_SetApart (all_cons ok_spec_l5Join (all_cons ok_spec_l12Taken (all_cons ok_spec_l5Same (all_cons ok_spec_l12Of (all_cons ok_spec_l12Of all_nil))))))))))
theorem ok_spec_Told : FunOk Tryz.prog tab g_spec_Told F_spec_Told := by
  unfold F_spec_Told; rw [lock_eq]
  exact fun_ok fol Tryz.func6 is_spec_Told (all_cons ok_spec_HouseOk (all_cons ok_spec_l12Gen all_nil))
theorem ok_laws_FnExactTold : FunOk Tryz.prog tab g_laws_FnExactTold F_laws_FnExactTold := by
  unfold F_laws_FnExactTold; rw [lock_eq]
  exact fun_ok fol Tryz.func3 is_laws_FnExactTold (all_cons ok_laws_szHouse (all_cons ok_laws_toHouse (all_cons ok_spec_Told (all_cons ok_laws_toHouse (all_cons ok_impl_Told (all_cons ok_laws_toHouse (all_cons ok_laws_eqHouse all_nil)))))))
theorem ok_impl_Items : FunOk Tryz.prog tab g_impl_Items F_impl_Items := by
  unfold F_impl_Items; rw [lock_eq]
  exact fun_ok fol Tryz.func35 is_impl_Items (all_cons ok_impl_rowEntries all_nil)
theorem ok_impl_Drained : FunOk Tryz.prog tab g_impl_Drained F_impl_Drained := by
  unfold F_impl_Drained; rw [lock_eq]
  exact fun_ok fol Tryz.func11 is_impl_Drained (all_cons ok_impl_HouseOk (all_cons ok_impl_Items all_nil))
theorem ok_spec_Items : FunOk Tryz.prog tab g_spec_Items F_spec_Items := by
  unfold F_spec_Items; rw [lock_eq]
  exact fun_ok fol Tryz.func34 is_spec_Items all_nil
theorem ok_spec_Drained : FunOk Tryz.prog tab g_spec_Drained F_spec_Drained := by
  unfold F_spec_Drained; rw [lock_eq]
  exact fun_ok fol Tryz.func10 is_spec_Drained (all_cons ok_spec_HouseOk (all_cons ok_spec_Items all_nil))
theorem ok_laws_FnExactDrained : FunOk Tryz.prog tab g_laws_FnExactDrained F_laws_FnExactDrained := by
  unfold F_laws_FnExactDrained; rw [lock_eq]
  exact fun_ok fol Tryz.func4 is_laws_FnExactDrained (all_cons ok_laws_szHouse (all_cons ok_laws_toHouse (all_cons ok_spec_Drained (all_cons ok_laws_toHouse (all_cons ok_impl_Drained (all_cons ok_laws_toHouse (all_cons ok_laws_eqHouse all_nil)))))))
theorem law_FnExactDrained : ∀ xs, ArgTys [GHouse.ty] xs → F_laws_FnExactDrained xs = some ⟨[.one (.b true)], []⟩ := by
  intro xs h
  obtain ⟨_, _, rfl, ⟨t0, h0, rfl⟩, h⟩ := h
  obtain rfl := h
  obtain ⟨x0, rfl, f0⟩ := GHouse.of h0
  exact laws_FnExactDrained_eq x0 f0
end Go.Wr
namespace Go.Proofs.YtghdplanmabneaaGreat
open Go.ChangeShapes Go.WideShapes Go.ChangeAt Go.RowKit Go.Wr

theorem own : ownKnob Tryz.prog.godebug = none := by kernel_rfl
theorem laidOut : laidOutB Tryz.prog = true := by kernel_rfl

set_option maxRecDepth 100000 in
theorem lifted (os : Os) (started : os.Started) (H : Type) (enc : TypeId × Value → H) :
    ReturnsInHanded {} Tryz.checked os 4 .any (Rows.fnExactDrainedSpec.pre6 enc Tryz.prog Tryz.f4 Rows.fnExactDrainedRow.domain false) (Rows.fnExactDrainedSpec.post enc Tryz.prog Tryz.f4 false true false false) := by
  refine returnsInHanded_of_change (C := Tryz.checked) own started (by kernel_rfl) Tryz.func4
    (ChangeSpec.witness6 (enc := enc) (C := Tryz.checked) false ⟨#[], #[.agg #[.int .i64 0, .int .i64 0, .int .i64 0, .slice none 0 0, .int .i64 0, .int .i64 0, .int .i64 0, .int .i64 0, .int .i64 0, .bool false, .slice none 0 0, .slice none 0 0, .slice none 0 0, .int .i64 0, .slice none 0 0, .slice none 0 0]], []⟩ 8 (by kernel_rfl) (by kernel_rfl) (by kernel_rfl) (by kernel_rfl)) ?_
  intro W base args ds gs before hval0 hW hcnd _
  have hval : ∀ (j : Nat) t v, Tryz.f4.params[j]? = some t → args[j]? = some v → Value.okWide Tryz.prog W .any base t v := hval0
  exact law_contract (es := [GHouse.ty]) laidOut ok_laws_FnExactDrained rfl (by kernel_rfl) (by kernel_rfl) law_FnExactDrained rfl (fun ds h => by
    match ds, h with
    | [a0], _ => rfl) hval hW

/-- The statement. -/
theorem fnExactDrained_holds : Rows.FnExactDrainedSaid :=
  OpenClaim.holds_of_wide 4 Tryz.f4 rfl rfl rfl rfl rfl rfl rfl ⟨rfl, rfl, rfl, rfl, rfl⟩ rfl rfl rfl rfl rfl (by kernel_rfl) Tryz.func4 (by kernel_rfl)
    (of_decide_eq_true (by kernel_rfl)) (by unfold Func.isWrapper; first | (rw [if_pos (by decide +kernel)]; kernel_rfl) | (rw [if_neg (by decide +kernel)]; exact ⟨rfl, rfl⟩))
    (fun os started H enc _ => lifted os started H enc)
end Go.Proofs.YtghdplanmabneaaGreat

