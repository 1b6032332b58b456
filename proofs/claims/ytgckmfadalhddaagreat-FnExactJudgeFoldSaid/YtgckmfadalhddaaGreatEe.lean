/-
  What is proved: lemmas on the way to the laws of this seat. No condition.
-/
import Derived.Test.YtgckmfadalhddaaGreatRows
import Derived.Test.YtgckmfadalhddaaGreatChecked
import Derived.JoinedOf
import Derived.ProofKit
import Derived.KernelRfl
set_option linter.unusedVariables false
set_option linter.unusedSimpArgs false
namespace Go.Proofs.YtgckmfadalhddaaGreat
open Go.ChangeShapes Go.WideShapes Go.ChangeAt Go.RowKit
theorem fact40 : (Rows.fnExactJudgeFoldRow.named == Tryz.prog.varsNamed 12) = true := by kernel_rfl
theorem fact41 : (Rows.fnExactJudgeFoldRow.loops == (Tryz.f12.params.toList ++ Rows.fnExactJudgeFoldSpec.plain.varTypes Tryz.prog).any (Tryz.prog.loopsFrom ·)) = true := by kernel_rfl
theorem fact42 : laidOutB Tryz.prog = true := by kernel_rfl
end Go.Proofs.YtgckmfadalhddaaGreat

