/-
  What is proved: lemmas on the way to the laws of this seat. No condition.
-/
import Derived.Test.YtbghjecopkbhlaaGreatRows
import Derived.Test.YtbghjecopkbhlaaGreatChecked
import Derived.JoinedOf
import Derived.ProofKit
import Derived.KernelRfl
set_option linter.unusedVariables false
set_option linter.unusedSimpArgs false
namespace Go.Proofs.YtbghjecopkbhlaaGreat
open Go.ChangeShapes Go.WideShapes Go.ChangeAt Go.RowKit
theorem fact30 : (Rows.fnExactFlushRow.inPlace == Tryz.prog.inPlace 7) = true := by kernel_rfl
theorem fact31 : (Rows.fnExactFlushRow.unfollowed == Tryz.prog.unfollowed 7) = true := by kernel_rfl
theorem fact32 : (Rows.fnExactFlushRow.recurses == Tryz.prog.recurses 7) = true := by kernel_rfl
end Go.Proofs.YtbghjecopkbhlaaGreat

