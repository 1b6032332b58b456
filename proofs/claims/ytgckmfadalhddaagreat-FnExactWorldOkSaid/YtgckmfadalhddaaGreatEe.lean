/-
  What is proved: the law FnExactWorldOk returns true for every input and leaves its arguments as they were. No condition.
-/
import Derived.Test.YtgckmfadalhddaaGreatRows
import Derived.Test.YtgckmfadalhddaaGreatChecked
import Derived.JoinedOf
import Derived.ProofKit
import Derived.KernelRfl
set_option linter.unusedVariables false
set_option linter.unusedSimpArgs false
namespace Go.Proofs.YtgckmfadalhddaaGreat
open Go.ChangeShapes Go.WideShapes Go.ChangeAt Go.RowKit
theorem fact40 : (Rows.fnExactWorldOkRow.named == Tryz.prog.varsNamed 3) = true := by kernel_rfl
theorem fact41 : (Rows.fnExactWorldOkRow.loops == (Tryz.f3.params.toList ++ Rows.fnExactWorldOkSpec.plain.varTypes Tryz.prog).any (Tryz.prog.loopsFrom ·)) = true := by kernel_rfl
theorem fact42 : laidOutB Tryz.prog = true := by kernel_rfl
end Go.Proofs.YtgckmfadalhddaaGreat

