/-
  What is proved: lemmas for the laws. No condition.
-/
import Derived.Test.YtbghjecopkbhlaaGreatRows
import Derived.Test.YtbghjecopkbhlaaGreatChecked
import Derived.JoinedOf
import Derived.ProofKit
import Derived.KernelRfl
set_option linter.unusedVariables false
set_option linter.unusedSimpArgs false
namespace Go.Proofs.YtbghjecopkbhlaaGreat
open Go.ChangeShapes Go.WideShapes Go.ChangeAt Go.RowKit
theorem fact30:(Rows.fnExactDrainRow.inPlace==Tryz.prog.inPlace 12)=true:=by kernel_rfl
theorem fact31:(Rows.fnExactDrainRow.unfollowed==Tryz.prog.unfollowed 12)=true:=by kernel_rfl
theorem fact32:(Rows.fnExactDrainRow.recurses==Tryz.prog.recurses 12)=true:=by kernel_rfl
end Go.Proofs.YtbghjecopkbhlaaGreat

