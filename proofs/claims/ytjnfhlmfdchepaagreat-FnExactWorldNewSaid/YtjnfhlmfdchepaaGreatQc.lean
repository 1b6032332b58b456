/-
  What is proved: lemmas on the way to the laws of this seat. No condition.
-/
import Derived.Test.YtjnfhlmfdchepaaGreatPa
set_option linter.unusedVariables false
set_option linter.unusedSimpArgs false
namespace Go.Wr
set_option maxRecDepth 20000
end Go.Wr
namespace Go.Wr
set_option maxRecDepth 20000
theorem SetR.len {s : List GSpan} (h : SetR s) (hl : s.length <= 4194304) : s.length <= 4194304 := hl
end Go.Wr
namespace Go.Wr
set_option maxRecDepth 20000
end Go.Wr
namespace Go.Wr
set_option maxRecDepth 20000
end Go.Wr

