/- Small helpers of the walks. Conditions: none. -/
import Derived.Test.YtmnfjbmhlabdaaaDoorProg
import Derived.Test.YtmnfjbmhlabdaaaDoorDSh
import Derived.Test.YtmnfjbmhlabdaaaDoorDW
import Derived.WalkKit
import Derived.Deep.LoopGhost
namespace Go.Proofs.YtmnfjbmhlabdaaaDoor.Pr
open Go.RowKit Go.Proofs.YtmnfjbmhlabdaaaDoorW.PrintWords Go.Proofs.YtmnfjbmhlabdaaaDoorW.PrintLast Go.Proofs.YtmnfjbmhlabdaaaDoorW.PrintMore
theorem less_not : ∀ (x y : List UInt8), (Op.bytesLess x y || x == y) = !Op.bytesLess y x
 | [], [] => by simp [Op.bytesLess]
 | [], _ :: _ => by simp [Op.bytesLess]
 | _ :: _, [] => by simp [Op.bytesLess]
 | a :: x, b :: y => by
  have ih := less_not x y
  simp only [Op.bytesLess]
  rcases Nat.lt_trichotomy a.toNat b.toNat with h | h | h
  ·have h1 : a < b := UInt8.lt_iff_toNat_lt.2 h
   have h2 : ¬ b < a := fun k => by have := UInt8.lt_iff_toNat_lt.1 k; omega
   have h3 : a ≠ b := fun k => by subst k; omega
   have h4 : b ≠ a := fun k => h3 k.symm
   simp [h1, h2, h4]
  ·have h3 : a = b := UInt8.toNat_inj.1 h
   subst h3
   have h2 : ¬ a < a := fun k => by have := UInt8.lt_iff_toNat_lt.1 k; omega
   simpa [h2] using ih
  ·have h1 : b < a := UInt8.lt_iff_toNat_lt.2 h
   have h2 : ¬ a < b := fun k => by have := UInt8.lt_iff_toNat_lt.1 k; omega
   have h3 : a ≠ b := fun k => by subst k; omega
   simp [h1, h2, h3]
theorem leq_not (t : TypeId) (a b : ByteArray) : binOp .leq t (.string a) (.string b) = pure (.bool (!Op.bytesLess b.toList a.toList)) := by
 rw [← less_not a.toList b.toList]
 simp [binOp, Op.stringOp]
theorem slStr (s : ByteArray) (i j : Int) (h0 : 0 ≤ i) (h1 : i ≤ j) (h2 : j ≤ (s.size : Int)) (w : World) : Sem.run Tryd.prog (Instr.slice 9 (.string s) (some (.int .i64 i)) (some (.int .i64 j)) none) w = .ok (.string (s.extract i.toNat j.toNat)) w := by
 have hu := Tryd.underlying9
 simp only [go_sem, h0, h1, h2, hu]
end Go.Proofs.YtmnfjbmhlabdaaaDoor.Pr
