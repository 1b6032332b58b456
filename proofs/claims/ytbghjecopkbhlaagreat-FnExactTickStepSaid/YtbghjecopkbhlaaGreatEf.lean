/-
  What is proved: lemmas for the laws. No condition.
-/
import Derived.Test.YtbghjecopkbhlaaGreatEa
import Derived.Test.YtbghjecopkbhlaaGreatEb
import Derived.Test.YtbghjecopkbhlaaGreatEc
import Derived.Test.YtbghjecopkbhlaaGreatEd
import Derived.Test.YtbghjecopkbhlaaGreatEe
set_option linter.unusedVariables false
set_option linter.unusedSimpArgs false
namespace Go.Proofs.YtbghjecopkbhlaaGreat
open Go.ChangeShapes Go.WideShapes Go.ChangeAt Go.RowKit
theorem alE {a b:Bool} (ha:a=true) (hb:b=true):(a&&b)=true:=by rw[ha,hb];rfl
theorem closed:joinedFacts Tryz.prog 8 Tryz.f8 Rows.fnExactTickStepSpec Rows.fnExactTickStepRow=true:=by
 unfold joinedFacts
 repeat' (with_reducible refine alE ?_ ?_)
 all_goals (first|(with_reducible exact fact00)|(with_reducible exact fact10)|(with_reducible exact fact20)|(with_reducible exact fact30)|(with_reducible exact fact31)|(with_reducible exact fact32)|(with_reducible exact fact40)|(with_reducible exact fact41)|(with_reducible exact fact42)|(as_aux_lemma=>kernel_rfl))
end Go.Proofs.YtbghjecopkbhlaaGreat

