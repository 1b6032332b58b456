/-
  What is proved: lemmas on the way to the laws of this seat. No condition.
-/
import Derived.Test.YtjnfhlmfdchepaaGreatRc
import Derived.Sort.Defs
import Derived.Lib.BitFns
import Derived.Lib.Small
import Derived.Shelf.SlSortCmp.NoneTotal
set_option linter.unusedVariables false
set_option linter.unusedSimpArgs false
namespace Go.Wr
end Go.Wr
namespace Go.Wr
open Go.Sort Go.Shelf Go.Proofs
section
variable {P : Program} {tab : Nat -> FuncId} {ρ : Ren}
end
end Go.Wr

