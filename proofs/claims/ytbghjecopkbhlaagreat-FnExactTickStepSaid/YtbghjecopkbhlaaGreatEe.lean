/-
  What is proved: lemmas for the laws. No condition.
-/
import Derived.Test.YtbghjecopkbhlaaGreatRows
import Derived.Test.YtbghjecopkbhlaaGreatChecked
import Derived.JoinedOf
import Derived.ProofKit
import Derived.KernelRfl
set_option linter.unusedVariables false
set_option linter.unusedSimpArgs false
namespace Go.Proofs.YtbghjecopkbhlaaGreat
open Go.ChangeShapes Go.WideShapes Go.ChangeAt Go.RowKit
theorem fact40:(Rows.fnExactTickStepRow.named==Tryz.prog.varsNamed 8)=true:=by kernel_rfl
theorem fact41:(Rows.fnExactTickStepRow.loops==(Tryz.f8.params.toList++Rows.fnExactTickStepSpec.plain.varTypes Tryz.prog).any (Tryz.prog.loopsFrom ·))=true:=by kernel_rfl
theorem fact42:laidOutB Tryz.prog=true:=by kernel_rfl
end Go.Proofs.YtbghjecopkbhlaaGreat

