/-
  What is proved: lemmas on the way to the laws of this seat. No condition.
-/
import Derived.Test.YtgckmfadalhddaaGreatRows
import Derived.Test.YtgckmfadalhddaaGreatChecked
import Derived.JoinedOf
import Derived.ProofKit
import Derived.KernelRfl
set_option linter.unusedVariables false
set_option linter.unusedSimpArgs false
namespace Go.Proofs.YtgckmfadalhddaaGreat
open Go.ChangeShapes Go.WideShapes Go.ChangeAt Go.RowKit
theorem fact40 : (Rows.fnExactJudgeToldRow.named == Tryz.prog.varsNamed 11) = true := by kernel_rfl
theorem fact41 : (Rows.fnExactJudgeToldRow.loops == (Tryz.f11.params.toList ++ Rows.fnExactJudgeToldSpec.plain.varTypes Tryz.prog).any (Tryz.prog.loopsFrom ·)) = true := by kernel_rfl
theorem fact42 : laidOutB Tryz.prog = true := by kernel_rfl
end Go.Proofs.YtgckmfadalhddaaGreat

