/-
  What is proved: the law FnExactWorldSame returns true for every input and leaves its arguments as they were. No condition.
-/
import Derived.Test.YtidfoaomjdjngaaGreatCa
import Derived.Test.YtidfoaomjdjngaaGreatLa
import Derived.Test.YtidfoaomjdjngaaGreatRc
import Derived.Test.YtidfoaomjdjngaaGreatRows
import Derived.ProofKit
set_option linter.unusedVariables false
set_option linter.unusedSimpArgs false
namespace Go.Wr
open Go.Proofs
theorem all_nil {q : Nat × Fun → Prop} : ∀ p ∈ ([] : List (Nat × Fun)), q p := fun _ h => by cases h
theorem all_cons {g : Nat} {F : Fun} {q : Nat → Fun → Prop} {l : List (Nat × Fun)} (h : q g F) (hl : ∀ p ∈ l, q p.1 p.2) : ∀ p ∈ (g, F) :: l, q p.1 p.2 := fun p hp => by
  rcases List.mem_cons.1 hp with rfl | hp
  · exact h
  · exact hl p hp
theorem ok_slices_Equal_Sint : FunOk Tryz.prog tab g_slices_Equal_Sint F_slices_Equal_Sint := by
  unfold F_slices_Equal_Sint; rw [lock_eq]
  exact fun_ok fol Tryz.func140 is_slices_Equal_Sint all_nil
theorem ok_impl_confSame : FunOk Tryz.prog tab g_impl_confSame F_impl_confSame := by
  unfold F_impl_confSame; rw [lock_eq]
  exact fun_ok fol Tryz.func76 is_impl_confSame (all_cons ok_slices_Equal_Sint all_nil)
theorem ok_slices_EqualFunc_SSint : FunOk Tryz.prog tab g_slices_EqualFunc_SSint F_slices_EqualFunc_SSint := by
  unfold F_slices_EqualFunc_SSint; rw [lock_eq]
  exact fun_ok fol Tryz.func176 is_slices_EqualFunc_SSint (all_cons ok_slices_Equal_Sint all_nil)
theorem ok_impl_SketchSame : FunOk Tryz.prog tab g_impl_SketchSame F_impl_SketchSame := by
  unfold F_impl_SketchSame; rw [lock_eq]
  exact fun_ok fol Tryz.func139 is_impl_SketchSame (all_cons ok_slices_Equal_Sint (all_cons ok_slices_Equal_Sint (all_cons ok_slices_EqualFunc_SSint all_nil)))
theorem ok_slices_Equal_Simpl_Span : FunOk Tryz.prog tab g_slices_Equal_Simpl_Span F_slices_Equal_Simpl_Span := by
  unfold F_slices_Equal_Simpl_Span; rw [lock_eq]
  exact fun_ok fol Tryz.func72 is_slices_Equal_Simpl_Span all_nil
theorem ok_impl_EntrySame : FunOk Tryz.prog tab g_impl_EntrySame F_impl_EntrySame := by
  unfold F_impl_EntrySame; rw [lock_eq]
  exact fun_ok fol Tryz.func83 is_impl_EntrySame (all_cons ok_slices_Equal_Simpl_Span (all_cons ok_impl_SketchSame all_nil))
theorem ok_slices_EqualFunc_Simpl_Entry : FunOk Tryz.prog tab g_slices_EqualFunc_Simpl_Entry F_slices_EqualFunc_Simpl_Entry := by
  unfold F_slices_EqualFunc_Simpl_Entry; rw [lock_eq]
  exact fun_ok fol Tryz.func82 is_slices_EqualFunc_Simpl_Entry (all_cons ok_impl_EntrySame all_nil)
theorem ok_impl_RowSame : FunOk Tryz.prog tab g_impl_RowSame F_impl_RowSame := by
  unfold F_impl_RowSame; rw [lock_eq]
  exact fun_ok fol Tryz.func75 is_impl_RowSame (all_cons ok_slices_EqualFunc_Simpl_Entry all_nil)
theorem ok_slices_EqualFunc_Simpl_Row : FunOk Tryz.prog tab g_slices_EqualFunc_Simpl_Row F_slices_EqualFunc_Simpl_Row := by
  unfold F_slices_EqualFunc_Simpl_Row; rw [lock_eq]
  exact fun_ok fol Tryz.func74 is_slices_EqualFunc_Simpl_Row (all_cons ok_impl_RowSame all_nil)
theorem ok_impl_HouseSame_c1 : FunOk Tryz.prog tab g_impl_HouseSame_c1 F_impl_HouseSame_c1 := by
  unfold F_impl_HouseSame_c1; rw [lock_eq]
  exact fun_ok fol Tryz.func73 is_impl_HouseSame_c1 (all_cons ok_slices_EqualFunc_Simpl_Row all_nil)
theorem ok_slices_EqualFunc_SSimpl_Row : FunOk Tryz.prog tab g_slices_EqualFunc_SSimpl_Row F_slices_EqualFunc_SSimpl_Row := by
  unfold F_slices_EqualFunc_SSimpl_Row; rw [lock_eq]
  exact fun_ok fol Tryz.func79 is_slices_EqualFunc_SSimpl_Row (all_cons ok_impl_HouseSame_c1 all_nil)
theorem ok_impl_outSame : FunOk Tryz.prog tab g_impl_outSame F_impl_outSame := by
  unfold F_impl_outSame; rw [lock_eq]
  exact fun_ok fol Tryz.func85 is_impl_outSame (all_cons ok_impl_EntrySame all_nil)
theorem ok_slices_EqualFunc_Simpl_Out : FunOk Tryz.prog tab g_slices_EqualFunc_Simpl_Out F_slices_EqualFunc_Simpl_Out := by
  unfold F_slices_EqualFunc_Simpl_Out; rw [lock_eq]
  exact fun_ok fol Tryz.func84 is_slices_EqualFunc_Simpl_Out (all_cons ok_impl_outSame all_nil)
theorem ok_impl_seatSame : FunOk Tryz.prog tab g_impl_seatSame F_impl_seatSame := by
  unfold F_impl_seatSame; rw [lock_eq]
  exact fun_ok fol Tryz.func78 is_impl_seatSame (all_cons ok_slices_Equal_Simpl_Span all_nil)
theorem ok_slices_EqualFunc_Simpl_Seat : FunOk Tryz.prog tab g_slices_EqualFunc_Simpl_Seat F_slices_EqualFunc_Simpl_Seat := by
  unfold F_slices_EqualFunc_Simpl_Seat; rw [lock_eq]
  exact fun_ok fol Tryz.func77 is_slices_EqualFunc_Simpl_Seat (all_cons ok_impl_seatSame all_nil)
theorem ok_impl_turnSame : FunOk Tryz.prog tab g_impl_turnSame F_impl_turnSame := by
  unfold F_impl_turnSame; rw [lock_eq]
  exact fun_ok fol Tryz.func81 is_impl_turnSame (all_cons ok_slices_Equal_Sint all_nil)
theorem ok_slices_EqualFunc_Simpl_Turn : FunOk Tryz.prog tab g_slices_EqualFunc_Simpl_Turn F_slices_EqualFunc_Simpl_Turn := by
  unfold F_slices_EqualFunc_Simpl_Turn; rw [lock_eq]
  exact fun_ok fol Tryz.func80 is_slices_EqualFunc_Simpl_Turn (all_cons ok_impl_turnSame all_nil)
theorem ok_impl_HouseSame : FunOk Tryz.prog tab g_impl_HouseSame F_impl_HouseSame := by
  unfold F_impl_HouseSame; rw [lock_eq]
  exact fun_ok fol Tryz.func28 is_impl_HouseSame (all_cons ok_impl_confSame (all_cons ok_slices_EqualFunc_Simpl_Seat (all_cons ok_slices_EqualFunc_SSimpl_Row (all_cons ok_slices_EqualFunc_Simpl_Turn (all_cons ok_slices_EqualFunc_Simpl_Entry (all_cons ok_slices_EqualFunc_Simpl_Out all_nil))))))
theorem ok_impl_itemSame : FunOk Tryz.prog tab g_impl_itemSame F_impl_itemSame := by
  unfold F_impl_itemSame; rw [lock_eq]
  exact fun_ok fol Tryz.func71 is_impl_itemSame (all_cons ok_impl_SketchSame all_nil)
theorem ok_slices_EqualFunc_Simpl_Item : FunOk Tryz.prog tab g_slices_EqualFunc_Simpl_Item F_slices_EqualFunc_Simpl_Item := by
  unfold F_slices_EqualFunc_Simpl_Item; rw [lock_eq]
  exact fun_ok fol Tryz.func70 is_slices_EqualFunc_Simpl_Item (all_cons ok_impl_itemSame all_nil)
theorem ok_impl_agentSame : FunOk Tryz.prog tab g_impl_agentSame F_impl_agentSame := by
  unfold F_impl_agentSame; rw [lock_eq]
  exact fun_ok fol Tryz.func27 is_impl_agentSame (all_cons ok_slices_EqualFunc_Simpl_Item (all_cons ok_slices_Equal_Simpl_Span all_nil))
theorem ok_slices_EqualFunc_Simpl_Agent : FunOk Tryz.prog tab g_slices_EqualFunc_Simpl_Agent F_slices_EqualFunc_Simpl_Agent := by
  unfold F_slices_EqualFunc_Simpl_Agent; rw [lock_eq]
  exact fun_ok fol Tryz.func26 is_slices_EqualFunc_Simpl_Agent (all_cons ok_impl_agentSame all_nil)
theorem ok_bytes_Equal : FunOk Tryz.prog tab g_bytes_Equal F_bytes_Equal := by
  unfold F_bytes_Equal; rw [lock_eq]
  exact fun_ok fol Tryz.func86 is_bytes_Equal all_nil
theorem ok_impl_packSame : FunOk Tryz.prog tab g_impl_packSame F_impl_packSame := by
  unfold F_impl_packSame; rw [lock_eq]
  exact fun_ok fol Tryz.func30 is_impl_packSame (all_cons ok_bytes_Equal all_nil)
theorem ok_slices_EqualFunc_Simpl_Pack : FunOk Tryz.prog tab g_slices_EqualFunc_Simpl_Pack F_slices_EqualFunc_Simpl_Pack := by
  unfold F_slices_EqualFunc_Simpl_Pack; rw [lock_eq]
  exact fun_ok fol Tryz.func29 is_slices_EqualFunc_Simpl_Pack (all_cons ok_impl_packSame all_nil)
theorem ok_impl_WorldSame : FunOk Tryz.prog tab g_impl_WorldSame F_impl_WorldSame := by
  unfold F_impl_WorldSame; rw [lock_eq]
  exact fun_ok fol Tryz.func8 is_impl_WorldSame (all_cons ok_slices_EqualFunc_Simpl_Agent (all_cons ok_impl_HouseSame (all_cons ok_slices_EqualFunc_Simpl_Pack all_nil)))
theorem ok_laws_eqIntS : FunOk Tryz.prog tab g_laws_eqIntS F_laws_eqIntS := by
  unfold F_laws_eqIntS; rw [lock_eq]
  exact fun_ok fol Tryz.func40 is_laws_eqIntS all_nil
theorem ok_laws_eqIntSS : FunOk Tryz.prog tab g_laws_eqIntSS F_laws_eqIntSS := by
  unfold F_laws_eqIntSS; rw [lock_eq]
  exact fun_ok fol Tryz.func192 is_laws_eqIntSS (all_cons ok_laws_eqIntS all_nil)
theorem ok_laws_eqSketch : FunOk Tryz.prog tab g_laws_eqSketch F_laws_eqSketch := by
  unfold F_laws_eqSketch; rw [lock_eq]
  exact fun_ok fol Tryz.func180 is_laws_eqSketch (all_cons ok_laws_eqIntS (all_cons ok_laws_eqIntS (all_cons ok_laws_eqIntSS all_nil)))
theorem ok_laws_eqItem : FunOk Tryz.prog tab g_laws_eqItem F_laws_eqItem := by
  unfold F_laws_eqItem; rw [lock_eq]
  exact fun_ok fol Tryz.func177 is_laws_eqItem (all_cons ok_laws_eqSketch all_nil)
theorem ok_laws_eqItemS : FunOk Tryz.prog tab g_laws_eqItemS F_laws_eqItemS := by
  unfold F_laws_eqItemS; rw [lock_eq]
  exact fun_ok fol Tryz.func141 is_laws_eqItemS (all_cons ok_laws_eqItem all_nil)
theorem ok_laws_eqSpan : FunOk Tryz.prog tab g_laws_eqSpan F_laws_eqSpan := by
  unfold F_laws_eqSpan; rw [lock_eq]
  exact fun_ok fol Tryz.func178 is_laws_eqSpan all_nil
theorem ok_laws_eqSpanS : FunOk Tryz.prog tab g_laws_eqSpanS F_laws_eqSpanS := by
  unfold F_laws_eqSpanS; rw [lock_eq]
  exact fun_ok fol Tryz.func142 is_laws_eqSpanS (all_cons ok_laws_eqSpan all_nil)
theorem ok_laws_eqAgent : FunOk Tryz.prog tab g_laws_eqAgent F_laws_eqAgent := by
  unfold F_laws_eqAgent; rw [lock_eq]
  exact fun_ok fol Tryz.func87 is_laws_eqAgent (all_cons ok_laws_eqItemS (all_cons ok_laws_eqSpanS all_nil))
theorem ok_laws_eqAgentS : FunOk Tryz.prog tab g_laws_eqAgentS F_laws_eqAgentS := by
  unfold F_laws_eqAgentS; rw [lock_eq]
  exact fun_ok fol Tryz.func31 is_laws_eqAgentS (all_cons ok_laws_eqAgent all_nil)
theorem ok_laws_eqConf : FunOk Tryz.prog tab g_laws_eqConf F_laws_eqConf := by
  unfold F_laws_eqConf; rw [lock_eq]
  exact fun_ok fol Tryz.func14 is_laws_eqConf (all_cons ok_laws_eqIntS all_nil)
theorem ok_laws_eqEntry : FunOk Tryz.prog tab g_laws_eqEntry F_laws_eqEntry := by
  unfold F_laws_eqEntry; rw [lock_eq]
  exact fun_ok fol Tryz.func146 is_laws_eqEntry (all_cons ok_laws_eqSpanS (all_cons ok_laws_eqSketch all_nil))
theorem ok_laws_eqEntryS : FunOk Tryz.prog tab g_laws_eqEntryS F_laws_eqEntryS := by
  unfold F_laws_eqEntryS; rw [lock_eq]
  exact fun_ok fol Tryz.func91 is_laws_eqEntryS (all_cons ok_laws_eqEntry all_nil)
theorem ok_laws_eqOut : FunOk Tryz.prog tab g_laws_eqOut F_laws_eqOut := by
  unfold F_laws_eqOut; rw [lock_eq]
  exact fun_ok fol Tryz.func147 is_laws_eqOut (all_cons ok_laws_eqEntry all_nil)
theorem ok_laws_eqOutS : FunOk Tryz.prog tab g_laws_eqOutS F_laws_eqOutS := by
  unfold F_laws_eqOutS; rw [lock_eq]
  exact fun_ok fol Tryz.func92 is_laws_eqOutS (all_cons ok_laws_eqOut all_nil)
theorem ok_laws_eqRow : FunOk Tryz.prog tab g_laws_eqRow F_laws_eqRow := by
  unfold F_laws_eqRow; rw [lock_eq]
  exact fun_ok fol Tryz.func179 is_laws_eqRow (all_cons ok_laws_eqEntryS all_nil)
theorem ok_laws_eqRowS : FunOk Tryz.prog tab g_laws_eqRowS F_laws_eqRowS := by
  unfold F_laws_eqRowS; rw [lock_eq]
  exact fun_ok fol Tryz.func144 is_laws_eqRowS (all_cons ok_laws_eqRow all_nil)
theorem ok_laws_eqRowSS : FunOk Tryz.prog tab g_laws_eqRowSS F_laws_eqRowSS := by
  unfold F_laws_eqRowSS; rw [lock_eq]
  exact fun_ok fol Tryz.func89 is_laws_eqRowSS (all_cons ok_laws_eqRowS all_nil)
theorem ok_laws_eqSeat : FunOk Tryz.prog tab g_laws_eqSeat F_laws_eqSeat := by
  unfold F_laws_eqSeat; rw [lock_eq]
  exact fun_ok fol Tryz.func143 is_laws_eqSeat (all_cons ok_laws_eqSpanS all_nil)
theorem ok_laws_eqSeatS : FunOk Tryz.prog tab g_laws_eqSeatS F_laws_eqSeatS := by
  unfold F_laws_eqSeatS; rw [lock_eq]
  exact fun_ok fol Tryz.func88 is_laws_eqSeatS (all_cons ok_laws_eqSeat all_nil)
theorem ok_laws_eqTurn : FunOk Tryz.prog tab g_laws_eqTurn F_laws_eqTurn := by
  unfold F_laws_eqTurn; rw [lock_eq]
  exact fun_ok fol Tryz.func145 is_laws_eqTurn (all_cons ok_laws_eqIntS all_nil)
theorem ok_laws_eqTurnS : FunOk Tryz.prog tab g_laws_eqTurnS F_laws_eqTurnS := by
  unfold F_laws_eqTurnS; rw [lock_eq]
  exact fun_ok fol Tryz.func90 is_laws_eqTurnS (all_cons ok_laws_eqTurn all_nil)
theorem ok_laws_eqHouse : FunOk Tryz.prog tab g_laws_eqHouse F_laws_eqHouse := by
  unfold F_laws_eqHouse; rw [lock_eq]
  exact fun_ok fol Tryz.func32 is_laws_eqHouse (all_cons ok_laws_eqConf (all_cons ok_laws_eqSeatS (all_cons ok_laws_eqRowSS (all_cons ok_laws_eqTurnS (all_cons ok_laws_eqEntryS (all_cons ok_laws_eqOutS all_nil))))))
theorem ok_laws_eqByteS : FunOk Tryz.prog tab g_laws_eqByteS F_laws_eqByteS := by
  unfold F_laws_eqByteS; rw [lock_eq]
  exact fun_ok fol Tryz.func148 is_laws_eqByteS all_nil
theorem ok_laws_eqPack : FunOk Tryz.prog tab g_laws_eqPack F_laws_eqPack := by
  unfold F_laws_eqPack; rw [lock_eq]
  exact fun_ok fol Tryz.func93 is_laws_eqPack (all_cons ok_laws_eqByteS all_nil)
theorem ok_laws_eqPackS : FunOk Tryz.prog tab g_laws_eqPackS F_laws_eqPackS := by
  unfold F_laws_eqPackS; rw [lock_eq]
  exact fun_ok fol Tryz.func33 is_laws_eqPackS (all_cons ok_laws_eqPack all_nil)
theorem ok_laws_eqWorld : FunOk Tryz.prog tab g_laws_eqWorld F_laws_eqWorld := by
  unfold F_laws_eqWorld; rw [lock_eq]
  exact fun_ok fol Tryz.func9 is_laws_eqWorld (all_cons ok_laws_eqAgentS (all_cons ok_laws_eqHouse (all_cons ok_laws_eqPackS all_nil)))
theorem ok_laws_szIntS : FunOk Tryz.prog tab g_laws_szIntS F_laws_szIntS := by
  unfold F_laws_szIntS; rw [lock_eq]
  exact fun_ok fol Tryz.func34 is_laws_szIntS all_nil
theorem ok_laws_szIntSS : FunOk Tryz.prog tab g_laws_szIntSS F_laws_szIntSS := by
  unfold F_laws_szIntSS; rw [lock_eq]
  exact fun_ok fol Tryz.func190 is_laws_szIntSS (all_cons ok_laws_szIntS all_nil)
theorem ok_laws_szSketch : FunOk Tryz.prog tab g_laws_szSketch F_laws_szSketch := by
  unfold F_laws_szSketch; rw [lock_eq]
  exact fun_ok fol Tryz.func171 is_laws_szSketch (all_cons ok_laws_szIntS (all_cons ok_laws_szIntS (all_cons ok_laws_szIntSS all_nil)))
theorem ok_laws_szItem : FunOk Tryz.prog tab g_laws_szItem F_laws_szItem := by
  unfold F_laws_szItem; rw [lock_eq]
  exact fun_ok fol Tryz.func169 is_laws_szItem (all_cons ok_laws_szSketch all_nil)
theorem ok_laws_szItemS : FunOk Tryz.prog tab g_laws_szItemS F_laws_szItemS := by
  unfold F_laws_szItemS; rw [lock_eq]
  exact fun_ok fol Tryz.func121 is_laws_szItemS (all_cons ok_laws_szItem all_nil)
theorem ok_laws_szSpanS : FunOk Tryz.prog tab g_laws_szSpanS F_laws_szSpanS := by
  unfold F_laws_szSpanS; rw [lock_eq]
  exact fun_ok fol Tryz.func122 is_laws_szSpanS all_nil
theorem ok_laws_szAgent : FunOk Tryz.prog tab g_laws_szAgent F_laws_szAgent := by
  unfold F_laws_szAgent; rw [lock_eq]
  exact fun_ok fol Tryz.func48 is_laws_szAgent (all_cons ok_laws_szItemS (all_cons ok_laws_szSpanS all_nil))
theorem ok_laws_szAgentS : FunOk Tryz.prog tab g_laws_szAgentS F_laws_szAgentS := by
  unfold F_laws_szAgentS; rw [lock_eq]
  exact fun_ok fol Tryz.func18 is_laws_szAgentS (all_cons ok_laws_szAgent all_nil)
theorem ok_laws_szConf : FunOk Tryz.prog tab g_laws_szConf F_laws_szConf := by
  unfold F_laws_szConf; rw [lock_eq]
  exact fun_ok fol Tryz.func10 is_laws_szConf (all_cons ok_laws_szIntS all_nil)
theorem ok_laws_szEntry : FunOk Tryz.prog tab g_laws_szEntry F_laws_szEntry := by
  unfold F_laws_szEntry; rw [lock_eq]
  exact fun_ok fol Tryz.func126 is_laws_szEntry (all_cons ok_laws_szSpanS (all_cons ok_laws_szSketch all_nil))
theorem ok_laws_szEntryS : FunOk Tryz.prog tab g_laws_szEntryS F_laws_szEntryS := by
  unfold F_laws_szEntryS; rw [lock_eq]
  exact fun_ok fol Tryz.func52 is_laws_szEntryS (all_cons ok_laws_szEntry all_nil)
theorem ok_laws_szOut : FunOk Tryz.prog tab g_laws_szOut F_laws_szOut := by
  unfold F_laws_szOut; rw [lock_eq]
  exact fun_ok fol Tryz.func127 is_laws_szOut (all_cons ok_laws_szEntry all_nil)
theorem ok_laws_szOutS : FunOk Tryz.prog tab g_laws_szOutS F_laws_szOutS := by
  unfold F_laws_szOutS; rw [lock_eq]
  exact fun_ok fol Tryz.func53 is_laws_szOutS (all_cons ok_laws_szOut all_nil)
theorem ok_laws_szRow : FunOk Tryz.prog tab g_laws_szRow F_laws_szRow := by
  unfold F_laws_szRow; rw [lock_eq]
  exact fun_ok fol Tryz.func170 is_laws_szRow (all_cons ok_laws_szEntryS all_nil)
theorem ok_laws_szRowS : FunOk Tryz.prog tab g_laws_szRowS F_laws_szRowS := by
  unfold F_laws_szRowS; rw [lock_eq]
  exact fun_ok fol Tryz.func124 is_laws_szRowS (all_cons ok_laws_szRow all_nil)
theorem ok_laws_szRowSS : FunOk Tryz.prog tab g_laws_szRowSS F_laws_szRowSS := by
  unfold F_laws_szRowSS; rw [lock_eq]
  exact fun_ok fol Tryz.func50 is_laws_szRowSS (all_cons ok_laws_szRowS all_nil)
theorem ok_laws_szSeat : FunOk Tryz.prog tab g_laws_szSeat F_laws_szSeat := by
  unfold F_laws_szSeat; rw [lock_eq]
  exact fun_ok fol Tryz.func123 is_laws_szSeat (all_cons ok_laws_szSpanS all_nil)
theorem ok_laws_szSeatS : FunOk Tryz.prog tab g_laws_szSeatS F_laws_szSeatS := by
  unfold F_laws_szSeatS; rw [lock_eq]
  exact fun_ok fol Tryz.func49 is_laws_szSeatS (all_cons ok_laws_szSeat all_nil)
theorem ok_laws_szTurn : FunOk Tryz.prog tab g_laws_szTurn F_laws_szTurn := by
  unfold F_laws_szTurn; rw [lock_eq]
  exact fun_ok fol Tryz.func125 is_laws_szTurn (all_cons ok_laws_szIntS all_nil)
theorem ok_laws_szTurnS : FunOk Tryz.prog tab g_laws_szTurnS F_laws_szTurnS := by
  unfold F_laws_szTurnS; rw [lock_eq]
  exact fun_ok fol Tryz.func51 is_laws_szTurnS (all_cons ok_laws_szTurn all_nil)
theorem ok_laws_szHouse : FunOk Tryz.prog tab g_laws_szHouse F_laws_szHouse := by
  unfold F_laws_szHouse; rw [lock_eq]
  exact fun_ok fol Tryz.func19 is_laws_szHouse (all_cons ok_laws_szConf (all_cons ok_laws_szSeatS (all_cons ok_laws_szRowSS (all_cons ok_laws_szTurnS (all_cons ok_laws_szEntryS (all_cons ok_laws_szOutS all_nil))))))
theorem ok_laws_szByteS : FunOk Tryz.prog tab g_laws_szByteS F_laws_szByteS := by
  unfold F_laws_szByteS; rw [lock_eq]
  exact fun_ok fol Tryz.func128 is_laws_szByteS all_nil
theorem ok_laws_szPack : FunOk Tryz.prog tab g_laws_szPack F_laws_szPack := by
  unfold F_laws_szPack; rw [lock_eq]
  exact fun_ok fol Tryz.func54 is_laws_szPack (all_cons ok_laws_szByteS all_nil)
theorem ok_laws_szPackS : FunOk Tryz.prog tab g_laws_szPackS F_laws_szPackS := by
  unfold F_laws_szPackS; rw [lock_eq]
  exact fun_ok fol Tryz.func20 is_laws_szPackS (all_cons ok_laws_szPack all_nil)
theorem ok_laws_szWorld : FunOk Tryz.prog tab g_laws_szWorld F_laws_szWorld := by
  unfold F_laws_szWorld; rw [lock_eq]
  exact fun_ok fol Tryz.func5 is_laws_szWorld (all_cons ok_laws_szAgentS (all_cons ok_laws_szHouse (all_cons ok_laws_szPackS all_nil)))
theorem ok_laws_toIntS : FunOk Tryz.prog tab g_laws_toIntS F_laws_toIntS := by
  unfold F_laws_toIntS; rw [lock_eq]
  exact fun_ok fol Tryz.func37 is_laws_toIntS all_nil
theorem ok_laws_toIntSS : FunOk Tryz.prog tab g_laws_toIntSS F_laws_toIntSS := by
  unfold F_laws_toIntSS; rw [lock_eq]
  exact fun_ok fol Tryz.func191 is_laws_toIntSS (all_cons ok_laws_toIntS all_nil)
theorem ok_laws_toSketch : FunOk Tryz.prog tab g_laws_toSketch F_laws_toSketch := by
  unfold F_laws_toSketch; rw [lock_eq]
  exact fun_ok fol Tryz.func175 is_laws_toSketch (all_cons ok_laws_toIntS (all_cons ok_laws_toIntS (all_cons ok_laws_toIntSS all_nil)))
theorem ok_laws_toItem : FunOk Tryz.prog tab g_laws_toItem F_laws_toItem := by
  unfold F_laws_toItem; rw [lock_eq]
  exact fun_ok fol Tryz.func172 is_laws_toItem (all_cons ok_laws_toSketch all_nil)
theorem ok_laws_toItemS : FunOk Tryz.prog tab g_laws_toItemS F_laws_toItemS := by
  unfold F_laws_toItemS; rw [lock_eq]
  exact fun_ok fol Tryz.func131 is_laws_toItemS (all_cons ok_laws_toItem all_nil)
theorem ok_laws_toSpan : FunOk Tryz.prog tab g_laws_toSpan F_laws_toSpan := by
  unfold F_laws_toSpan; rw [lock_eq]
  exact fun_ok fol Tryz.func173 is_laws_toSpan all_nil
theorem ok_laws_toSpanS : FunOk Tryz.prog tab g_laws_toSpanS F_laws_toSpanS := by
  unfold F_laws_toSpanS; rw [lock_eq]
  exact fun_ok fol Tryz.func132 is_laws_toSpanS (all_cons ok_laws_toSpan all_nil)
theorem ok_laws_toAgent : FunOk Tryz.prog tab g_laws_toAgent F_laws_toAgent := by
  unfold F_laws_toAgent; rw [lock_eq]
  exact fun_ok fol Tryz.func63 is_laws_toAgent (all_cons ok_laws_toItemS (all_cons ok_laws_toSpanS all_nil))
theorem ok_laws_toAgentS : FunOk Tryz.prog tab g_laws_toAgentS F_laws_toAgentS := by
  unfold F_laws_toAgentS; rw [lock_eq]
  exact fun_ok fol Tryz.func23 is_laws_toAgentS (all_cons ok_laws_toAgent all_nil)
theorem ok_laws_toConf : FunOk Tryz.prog tab g_laws_toConf F_laws_toConf := by
  unfold F_laws_toConf; rw [lock_eq]
  exact fun_ok fol Tryz.func12 is_laws_toConf (all_cons ok_laws_toIntS all_nil)
theorem ok_laws_toEntry : FunOk Tryz.prog tab g_laws_toEntry F_laws_toEntry := by
  unfold F_laws_toEntry; rw [lock_eq]
  exact fun_ok fol Tryz.func136 is_laws_toEntry (all_cons ok_laws_toSpanS (all_cons ok_laws_toSketch all_nil))
theorem ok_laws_toEntryS : FunOk Tryz.prog tab g_laws_toEntryS F_laws_toEntryS := by
  unfold F_laws_toEntryS; rw [lock_eq]
  exact fun_ok fol Tryz.func67 is_laws_toEntryS (all_cons ok_laws_toEntry all_nil)
theorem ok_laws_toOut : FunOk Tryz.prog tab g_laws_toOut F_laws_toOut := by
  unfold F_laws_toOut; rw [lock_eq]
  exact fun_ok fol Tryz.func137 is_laws_toOut (all_cons ok_laws_toEntry all_nil)
theorem ok_laws_toOutS : FunOk Tryz.prog tab g_laws_toOutS F_laws_toOutS := by
  unfold F_laws_toOutS; rw [lock_eq]
  exact fun_ok fol Tryz.func68 is_laws_toOutS (all_cons ok_laws_toOut all_nil)
theorem ok_laws_toRow : FunOk Tryz.prog tab g_laws_toRow F_laws_toRow := by
  unfold F_laws_toRow; rw [lock_eq]
  exact fun_ok fol Tryz.func174 is_laws_toRow (all_cons ok_laws_toEntryS all_nil)
theorem ok_laws_toRowS : FunOk Tryz.prog tab g_laws_toRowS F_laws_toRowS := by
  unfold F_laws_toRowS; rw [lock_eq]
  exact fun_ok fol Tryz.func134 is_laws_toRowS (all_cons ok_laws_toRow all_nil)
theorem ok_laws_toRowSS : FunOk Tryz.prog tab g_laws_toRowSS F_laws_toRowSS := by
  unfold F_laws_toRowSS; rw [lock_eq]
  exact fun_ok fol Tryz.func65 is_laws_toRowSS (all_cons ok_laws_toRowS all_nil)
theorem ok_laws_toSeat : FunOk Tryz.prog tab g_laws_toSeat F_laws_toSeat := by
  unfold F_laws_toSeat; rw [lock_eq]
  exact fun_ok fol Tryz.func133 is_laws_toSeat (all_cons ok_laws_toSpanS all_nil)
theorem ok_laws_toSeatS : FunOk Tryz.prog tab g_laws_toSeatS F_laws_toSeatS := by
  unfold F_laws_toSeatS; rw [lock_eq]
  exact fun_ok fol Tryz.func64 is_laws_toSeatS (all_cons ok_laws_toSeat all_nil)
theorem ok_laws_toTurn : FunOk Tryz.prog tab g_laws_toTurn F_laws_toTurn := by
  unfold F_laws_toTurn; rw [lock_eq]
  exact fun_ok fol Tryz.func135 is_laws_toTurn (all_cons ok_laws_toIntS all_nil)
theorem ok_laws_toTurnS : FunOk Tryz.prog tab g_laws_toTurnS F_laws_toTurnS := by
  unfold F_laws_toTurnS; rw [lock_eq]
  exact fun_ok fol Tryz.func66 is_laws_toTurnS (all_cons ok_laws_toTurn all_nil)
theorem ok_laws_toHouse : FunOk Tryz.prog tab g_laws_toHouse F_laws_toHouse := by
  unfold F_laws_toHouse; rw [lock_eq]
  exact fun_ok fol Tryz.func24 is_laws_toHouse (all_cons ok_laws_toConf (all_cons ok_laws_toSeatS (all_cons ok_laws_toRowSS (all_cons ok_laws_toTurnS (all_cons ok_laws_toEntryS (all_cons ok_laws_toOutS all_nil))))))
theorem ok_laws_toByteS : FunOk Tryz.prog tab g_laws_toByteS F_laws_toByteS := by
  unfold F_laws_toByteS; rw [lock_eq]
  exact fun_ok fol Tryz.func138 is_laws_toByteS all_nil
theorem ok_laws_toPack : FunOk Tryz.prog tab g_laws_toPack F_laws_toPack := by
  unfold F_laws_toPack; rw [lock_eq]
  exact fun_ok fol Tryz.func69 is_laws_toPack (all_cons ok_laws_toByteS all_nil)
theorem ok_laws_toPackS : FunOk Tryz.prog tab g_laws_toPackS F_laws_toPackS := by
  unfold F_laws_toPackS; rw [lock_eq]
  exact fun_ok fol Tryz.func25 is_laws_toPackS (all_cons ok_laws_toPack all_nil)
theorem ok_laws_toWorld : FunOk Tryz.prog tab g_laws_toWorld F_laws_toWorld := by
  unfold F_laws_toWorld; rw [lock_eq]
  exact fun_ok fol Tryz.func7 is_laws_toWorld (all_cons ok_laws_toAgentS (all_cons ok_laws_toHouse (all_cons ok_laws_toPackS all_nil)))
theorem ok_spec_l1Same : FunOk Tryz.prog tab g_spec_l1Same F_spec_l1Same := by
  unfold F_spec_l1Same; rw [lock_eq]
  exact fun_ok fol Tryz.func59 is_spec_l1Same all_nil
theorem ok_spec_SketchSame : FunOk Tryz.prog tab g_spec_SketchSame F_spec_SketchSame := by
  unfold F_spec_SketchSame; rw [lock_eq]
  exact fun_ok fol Tryz.func130 is_spec_SketchSame (all_cons ok_spec_l1Same (all_cons ok_spec_l1Same (all_cons ok_spec_l1Same all_nil)))
theorem ok_spec_l5Same : FunOk Tryz.prog tab g_spec_l5Same F_spec_l5Same := by
  unfold F_spec_l5Same; rw [lock_eq]
  exact fun_ok fol Tryz.func61 is_spec_l5Same all_nil
theorem ok_spec_EntrySame : FunOk Tryz.prog tab g_spec_EntrySame F_spec_EntrySame := by
  unfold F_spec_EntrySame; rw [lock_eq]
  exact fun_ok fol Tryz.func60 is_spec_EntrySame (all_cons ok_spec_l5Same (all_cons ok_spec_SketchSame all_nil))
theorem ok_spec_l10Entries : FunOk Tryz.prog tab g_spec_l10Entries F_spec_l10Entries := by
  unfold F_spec_l10Entries; rw [lock_eq]
  exact fun_ok fol Tryz.func57 is_spec_l10Entries (all_cons ok_spec_EntrySame all_nil)
theorem ok_spec_l12Confs : FunOk Tryz.prog tab g_spec_l12Confs F_spec_l12Confs := by
  unfold F_spec_l12Confs; rw [lock_eq]
  exact fun_ok fol Tryz.func55 is_spec_l12Confs (all_cons ok_spec_l1Same all_nil)
theorem ok_spec_RowSame : FunOk Tryz.prog tab g_spec_RowSame F_spec_RowSame := by
  unfold F_spec_RowSame; rw [lock_eq]
  exact fun_ok fol Tryz.func129 is_spec_RowSame (all_cons ok_spec_l10Entries all_nil)
theorem ok_spec_l12Rows : FunOk Tryz.prog tab g_spec_l12Rows F_spec_l12Rows := by
  unfold F_spec_l12Rows; rw [lock_eq]
  exact fun_ok fol Tryz.func56 is_spec_l12Rows (all_cons ok_spec_RowSame all_nil)
theorem ok_spec_l12Seat : FunOk Tryz.prog tab g_spec_l12Seat F_spec_l12Seat := by
  unfold F_spec_l12Seat; rw [lock_eq]
  exact fun_ok fol Tryz.func58 is_spec_l12Seat (all_cons ok_spec_l5Same all_nil)
theorem ok_spec_HouseSame : FunOk Tryz.prog tab g_spec_HouseSame F_spec_HouseSame := by
  unfold F_spec_HouseSame; rw [lock_eq]
  exact fun_ok fol Tryz.func21 is_spec_HouseSame (all_cons ok_spec_l12Confs (all_cons ok_spec_l12Rows (all_cons ok_spec_l10Entries (all_cons ok_spec_l12Seat (all_cons ok_spec_l1Same (all_cons ok_spec_EntrySame all_nil))))))
theorem ok_spec_l7Item : FunOk Tryz.prog tab g_spec_l7Item F_spec_l7Item := by
  unfold F_spec_l7Item; rw [lock_eq]
  exact fun_ok fol Tryz.func62 is_spec_l7Item (all_cons ok_spec_SketchSame all_nil)
theorem ok_spec_l17Agents : FunOk Tryz.prog tab g_spec_l17Agents F_spec_l17Agents := by
  unfold F_spec_l17Agents; rw [lock_eq]
  exact fun_ok fol Tryz.func22 is_spec_l17Agents (all_cons ok_spec_l5Same (all_cons ok_spec_l7Item all_nil))
theorem ok_spec_WorldSame : FunOk Tryz.prog tab g_spec_WorldSame F_spec_WorldSame := by
  unfold F_spec_WorldSame; rw [lock_eq]
  exact fun_ok fol Tryz.func6 is_spec_WorldSame (all_cons ok_spec_HouseSame (all_cons ok_spec_l17Agents all_nil))
theorem ok_laws_FnExactWorldSame : FunOk Tryz.prog tab g_laws_FnExactWorldSame F_laws_FnExactWorldSame := by
  unfold F_laws_FnExactWorldSame; rw [lock_eq]
  exact fun_ok fol Tryz.func3 is_laws_FnExactWorldSame (all_cons ok_laws_szWorld (all_cons ok_laws_szWorld (all_cons ok_laws_toWorld (all_cons ok_laws_toWorld (all_cons ok_spec_WorldSame (all_cons ok_laws_toWorld (all_cons ok_laws_toWorld (all_cons ok_impl_WorldSame (all_cons ok_laws_toWorld (all_cons ok_laws_eqWorld (all_cons ok_laws_toWorld (all_cons ok_laws_eqWorld all_nil))))))))))))
theorem law_FnExactWorldSame : ∀ xs, ArgTys [GWorld.ty, GWorld.ty] xs → F_laws_FnExactWorldSame xs = some ⟨[.one (.b true)], []⟩ := by
  intro xs h
  obtain ⟨_, _, rfl, ⟨t0, h0, rfl⟩, h⟩ := h
  obtain ⟨_, _, rfl, ⟨t1, h1, rfl⟩, h⟩ := h
  obtain rfl := h
  obtain ⟨x0, rfl, f0⟩ := GWorld.of h0
  obtain ⟨x1, rfl, f1⟩ := GWorld.of h1
  exact laws_FnExactWorldSame_eq x0 x1 f0 f1
end Go.Wr
namespace Go.Proofs.YtidfoaomjdjngaaGreat
open Go.ChangeShapes Go.WideShapes Go.ChangeAt Go.RowKit Go.Wr

theorem own : ownKnob Tryz.prog.godebug = none := by kernel_rfl
theorem laidOut : laidOutB Tryz.prog = true := by kernel_rfl

set_option maxRecDepth 100000 in
theorem lifted (os : Os) (started : os.Started) (H : Type) (enc : TypeId × Value → H) :
    ReturnsInHanded {} Tryz.checked os 3 .any (Rows.fnExactWorldSameSpec.pre6 enc Tryz.prog Tryz.f3 Rows.fnExactWorldSameRow.domain false) (Rows.fnExactWorldSameSpec.post enc Tryz.prog Tryz.f3 false true false false) := by
  refine returnsInHanded_of_change (C := Tryz.checked) own started (by kernel_rfl) Tryz.func3
    (ChangeSpec.witness6 (enc := enc) (C := Tryz.checked) false ⟨#[], #[.agg #[.slice none 0 0, .int .i64 0, .int .i64 0, .int .i64 0, .slice none 0 0, .int .i64 0, .int .i64 0, .int .i64 0, .int .i64 0, .int .i64 0, .bool false, .slice none 0 0, .slice none 0 0, .slice none 0 0, .int .i64 0, .slice none 0 0, .slice none 0 0, .slice none 0 0], .agg #[.slice none 0 0, .int .i64 0, .int .i64 0, .int .i64 0, .slice none 0 0, .int .i64 0, .int .i64 0, .int .i64 0, .int .i64 0, .int .i64 0, .bool false, .slice none 0 0, .slice none 0 0, .slice none 0 0, .int .i64 0, .slice none 0 0, .slice none 0 0, .slice none 0 0]], []⟩ 8 (by kernel_rfl) (by kernel_rfl) (by kernel_rfl) (by kernel_rfl)) ?_
  intro W base args ds gs before hval0 hW hcnd _
  have hval : ∀ (j : Nat) t v, Tryz.f3.params[j]? = some t → args[j]? = some v → Value.okWide Tryz.prog W .any base t v := hval0
  exact law_contract (es := [GWorld.ty, GWorld.ty]) laidOut ok_laws_FnExactWorldSame rfl (by kernel_rfl) (by kernel_rfl) law_FnExactWorldSame rfl (fun ds h => by
    match ds, h with
    | [a0, a1], _ => rfl) hval hW

/-- The statement. -/
theorem fnExactWorldSame_holds : Rows.FnExactWorldSameSaid :=
  OpenClaim.holds_of_wide 3 Tryz.f3 rfl rfl rfl rfl rfl rfl rfl ⟨rfl, rfl, rfl, rfl, rfl⟩ rfl rfl rfl rfl rfl (by kernel_rfl) Tryz.func3 (by kernel_rfl)
    (of_decide_eq_true (by kernel_rfl)) (by unfold Func.isWrapper; first | (rw [if_pos (by decide +kernel)]; kernel_rfl) | (rw [if_neg (by decide +kernel)]; exact ⟨rfl, rfl⟩))
    (fun os started H enc _ => lifted os started H enc)
end Go.Proofs.YtidfoaomjdjngaaGreat

