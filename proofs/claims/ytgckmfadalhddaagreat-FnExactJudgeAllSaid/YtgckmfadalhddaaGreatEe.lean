/-
  What is proved: lemmas on the way to the laws of this seat. No condition.
-/
import Derived.Test.YtgckmfadalhddaaGreatRows
import Derived.Test.YtgckmfadalhddaaGreatChecked
import Derived.JoinedOf
import Derived.ProofKit
import Derived.KernelRfl
set_option linter.unusedVariables false
set_option linter.unusedSimpArgs false
namespace Go.Proofs.YtgckmfadalhddaaGreat
open Go.ChangeShapes Go.WideShapes Go.ChangeAt Go.RowKit
theorem fact40 : (Rows.fnExactJudgeAllRow.named == Tryz.prog.varsNamed 13) = true := by kernel_rfl
theorem fact41 : (Rows.fnExactJudgeAllRow.loops == (Tryz.f13.params.toList ++ Rows.fnExactJudgeAllSpec.plain.varTypes Tryz.prog).any (Tryz.prog.loopsFrom ·)) = true := by kernel_rfl
theorem fact42 : laidOutB Tryz.prog = true := by kernel_rfl
end Go.Proofs.YtgckmfadalhddaaGreat

