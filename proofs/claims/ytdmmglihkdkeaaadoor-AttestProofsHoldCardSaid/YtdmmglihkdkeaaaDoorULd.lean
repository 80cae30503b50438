/- What is known of the two tables of Go's library that the program reads: the premise that is handed through the walks, and that it stays. Conditions: none. -/
import Derived.Test.YtdmmglihkdkeaaaDoorProg
import Derived.Lib.LaidTab
import Derived.Lib.ItoaNum
import Derived.Below
import Derived.KernelRfl
import Derived.Test.YtdmmglihkdkeaaaDoorUWWords
import Derived.Test.YtdmmglihkdkeaaaDoorUWLast
namespace Go.Proofs.YtdmmglihkdkeaaaDoor.Pr
open Go.RowKit Go.Proofs.YtdmmglihkdkeaaaDoorW.PrintWords Go.Proofs.YtdmmglihkdkeaaaDoorW.PrintLast
/-- A call that only draws, told as one that may make memory. -/
theorem quiet_below {P : Program} {f : FuncId} {args : Array Value} {w : World} {E : Ending} (h : Calls P f args w fun e w' => e = E ∧ Drawn0 w w') : Calls P f args w fun e w' => e = E ∧ Below w.heap.size w w' := h.mono fun _ _ ⟨h1, h2⟩ => ⟨h1, h2.below⟩
/-- Cell 15 of math/bits' table (block 3), and internal/strconv's table of powers of ten (block 0). -/
structure LaidW (w : World) : Prop where
  c64 : w.cell? ⟨3, 15, none⟩ = some (.int .u8 4)
  p10 : w.var? Tryd.prog ((Tryd.prog.globals[0]?).map (·.name)).get! = some (Lib.pow10Tab.map fun z => Value.int .u64 z).toArray
  big : 3 < w.heap.size
theorem g0 : Tryd.prog.globalNamed ((Tryd.prog.globals[0]?).map (·.name)).get! = some 0 := by kernel_rfl
theorem LaidW.below {w w1 : World} (h : LaidW w) (hb : Below w.heap.size w w1) : LaidW w1 := by
  refine ⟨(hb.cell (p := ⟨3, 15, none⟩) h.big).trans h.c64, ?_, Nat.lt_of_lt_of_le h.big hb.size⟩
  have h0 := h.p10
  unfold World.var? at h0 ⊢
  rw [g0] at h0 ⊢
  simp only [Option.bind_some] at h0 ⊢
  rw [hb.block 0 (by have := h.big; omega)]
  exact h0
end Go.Proofs.YtdmmglihkdkeaaaDoor.Pr
