/-
  What is proved: the law FnExactWorldOk returns true for every input and leaves its arguments as they were. No condition.
-/
import Derived.Test.YtgckmfadalhddaaGreatRows
import Derived.Test.YtgckmfadalhddaaGreatChecked
import Derived.JoinedOf
import Derived.ProofKit
import Derived.KernelRfl
set_option linter.unusedVariables false
set_option linter.unusedSimpArgs false
namespace Go.Proofs.YtgckmfadalhddaaGreat
open Go.ChangeShapes Go.WideShapes Go.ChangeAt Go.RowKit
theorem fact00 : Tryz.prog.mayEnter = true := by kernel_rfl
end Go.Proofs.YtgckmfadalhddaaGreat

