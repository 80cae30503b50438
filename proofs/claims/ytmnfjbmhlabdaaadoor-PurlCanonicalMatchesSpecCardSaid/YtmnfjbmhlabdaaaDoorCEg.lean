/- A call that only draws, told as one that may make memory. Conditions: none. -/
import Derived.Test.YtmnfjbmhlabdaaaDoorCPrx0
import Derived.Below
namespace Go.Proofs.YtmnfjbmhlabdaaaDoor.Pr
open Go.RowKit Go.Proofs.YtmnfjbmhlabdaaaDoorW.PrintWords Go.Proofs.YtmnfjbmhlabdaaaDoorW.PrintLast
theorem quiet_below {P : Program} {f : FuncId} {args : Array Value} {w : World} {E : Ending} (h : Calls P f args w fun e w' => e = E ∧ Drawn0 w w') : Calls P f args w fun e w' => e = E ∧ Below w.heap.size w w' := h.mono fun _ _ ⟨h1, h2⟩ => ⟨h1, h2.below⟩
end Go.Proofs.YtmnfjbmhlabdaaaDoor.Pr
