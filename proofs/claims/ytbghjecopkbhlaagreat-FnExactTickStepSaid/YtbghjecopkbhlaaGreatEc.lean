/-
  What is proved: lemmas for the laws. No condition.
-/
import Derived.Test.YtbghjecopkbhlaaGreatRows
import Derived.Test.YtbghjecopkbhlaaGreatChecked
import Derived.JoinedOf
import Derived.ProofKit
import Derived.KernelRfl
set_option linter.unusedVariables false
set_option linter.unusedSimpArgs false
namespace Go.Proofs.YtbghjecopkbhlaaGreat
open Go.ChangeShapes Go.WideShapes Go.ChangeAt Go.RowKit
theorem fact20:(Tryz.prog.make==some Rows.fnExactTickStepRow.make)=true:=by kernel_rfl
end Go.Proofs.YtbghjecopkbhlaaGreat

