-- Written by a program of the session (wip/pr.py) out of the translation; Lean checks it.
import Derived.Test.YtdmmglihkdkeaaaDoorQPrx0
import Derived.Test.YtdmmglihkdkeaaaDoorQPrx5
import Derived.Test.YtdmmglihkdkeaaaDoorQPrx7
import Derived.Test.YtdmmglihkdkeaaaDoorQPrx19
import Derived.Test.YtdmmglihkdkeaaaDoorQPrx20
import Derived.Test.YtdmmglihkdkeaaaDoorQEa
namespace Go.Proofs.YtdmmglihkdkeaaaDoor.Pr
open Go.RowKit Go.Proofs.YtdmmglihkdkeaaaDoorW.PrintWords Go.Proofs.YtdmmglihkdkeaaaDoorW.PrintLast Go.Proofs.YtdmmglihkdkeaaaDoorW.PrintMore
attribute [local go_sem] max2_int min2_int max_two min_two max_three min_three max_four min_four   -- for this text's walks alone
set_option linter.unusedVariables false
set_option linter.unusedSimpArgs false
/-! ### provenderref8_Leaf: function 27 -/
/-! ### attest_leaf: function 82 -/
/-! ### attest_Leaf: function 28 -/
/-! ### provenderref8_leavesFault: function 83 -/
def provenderref8_leavesFault.l0 : Nat → List ByteArray → Int → Int → Option (Int)
  | 0, _, _, _ => none
  | k + 1, x8, x9, x10 => if x10 < x9 then (if 0 ≤ x10 then (if x10 < (x8.length : Int) then ((provenderref8_isSum.f k (rdOf ByteArray.empty x8 x10)).bind fun t368 => (if t368 = true then (provenderref8_leavesFault.l0 k x8 x9 (wrap64 (x10 + 1))) else (some 2))) else (none)) else (none)) else (some 0)
/-! ### provenderref8_root: function 84 -/
/-! ### provenderref8_Root: function 29 -/
/-! ### attest_root: function 85 -/
end Go.Proofs.YtdmmglihkdkeaaaDoor.Pr
