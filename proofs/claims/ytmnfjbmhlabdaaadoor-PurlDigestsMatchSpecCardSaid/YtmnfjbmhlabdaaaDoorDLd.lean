/- What is known of the table of Go's library that the program reads: the premise that is handed through the walks, and that it stays. Conditions: none. -/
import Derived.Test.YtmnfjbmhlabdaaaDoorProg
import Derived.Lib.LaidTab
import Derived.Below
import Derived.KernelRfl
import Derived.Test.YtmnfjbmhlabdaaaDoorDW
namespace Go.Proofs.YtmnfjbmhlabdaaaDoor.Pr
open Go.RowKit Go.Proofs.YtmnfjbmhlabdaaaDoorW.PrintWords Go.Proofs.YtmnfjbmhlabdaaaDoorW.PrintLast
/-- Cell 15 of math/bits' table (block 3). -/
structure LaidW (w : World) : Prop where
 c64 : w.cell? ⟨3, 15, none⟩ = some (.int .u8 4)
 big : 3 < w.heap.size
theorem LaidW.below {w w1 : World} (h : LaidW w) (hb : Below w.heap.size w w1) : LaidW w1 :=
 ⟨(hb.cell (p := ⟨3, 15, none⟩) h.big).trans h.c64, Nat.lt_of_lt_of_le h.big hb.size⟩
end Go.Proofs.YtmnfjbmhlabdaaaDoor.Pr
