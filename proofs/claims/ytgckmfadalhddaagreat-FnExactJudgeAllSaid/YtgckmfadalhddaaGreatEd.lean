/-
  What is proved: lemmas on the way to the laws of this seat. No condition.
-/
import Derived.Test.YtgckmfadalhddaaGreatRows
import Derived.Test.YtgckmfadalhddaaGreatChecked
import Derived.JoinedOf
import Derived.ProofKit
import Derived.KernelRfl
set_option linter.unusedVariables false
set_option linter.unusedSimpArgs false
namespace Go.Proofs.YtgckmfadalhddaaGreat
open Go.ChangeShapes Go.WideShapes Go.ChangeAt Go.RowKit
theorem fact30 : (Rows.fnExactJudgeAllRow.inPlace == Tryz.prog.inPlace 13) = true := by kernel_rfl
theorem fact31 : (Rows.fnExactJudgeAllRow.unfollowed == Tryz.prog.unfollowed 13) = true := by kernel_rfl
theorem fact32 : (Rows.fnExactJudgeAllRow.recurses == Tryz.prog.recurses 13) = true := by kernel_rfl
end Go.Proofs.YtgckmfadalhddaaGreat

