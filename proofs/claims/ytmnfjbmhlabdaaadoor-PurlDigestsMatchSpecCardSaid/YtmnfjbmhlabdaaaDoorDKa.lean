/- The plain law of kinds: what the law computes is true, from some number of rounds on. Conditions: none. -/
import Derived.Test.YtmnfjbmhlabdaaaDoorDGt
import Derived.Test.YtmnfjbmhlabdaaaDoorDPrx0
import Derived.Test.YtmnfjbmhlabdaaaDoorDEa
import Derived.Test.YtmnfjbmhlabdaaaDoorDEq
import Derived.Test.YtmnfjbmhlabdaaaDoorDPk1
import Derived.Test.YtmnfjbmhlabdaaaDoorDPk8
namespace Go.Proofs.YtmnfjbmhlabdaaaDoor.Pr
open Go.RowKit Go.Proofs.YtmnfjbmhlabdaaaDoorW.PrintWords Go.Proofs.YtmnfjbmhlabdaaaDoorW.PrintLast Go.Proofs.YtmnfjbmhlabdaaaDoorW.PrintMore
set_option maxRecDepth 100000 in
theorem told_at : provenderlaw2_told.f 60 = some true := by kernel_rfl
theorem told_gets : Gets (fun k => provenderlaw2_told.f k) true := Gets.mono provenderlaw2_told.mono 60 told_at
end Go.Proofs.YtmnfjbmhlabdaaaDoor.Pr
