/- slices.SortStableFunc of an empty list ends and changes nothing. Conditions: the list is empty. -/
import Derived.Test.YtmnfjbmhlabdaaaDoorDXa
import Derived.Test.YtmnfjbmhlabdaaaDoorDPrx0
import Derived.Deep.LoopGhost
namespace Go.Proofs.YtmnfjbmhlabdaaaDoor.Pr
open Go.RowKit Go.Proofs.YtmnfjbmhlabdaaaDoorW.PrintWords Go.Proofs.YtmnfjbmhlabdaaaDoorW.PrintLast Go.Proofs.YtmnfjbmhlabdaaaDoorW.PrintMore
set_option maxHeartbeats 2000000 in
set_option maxRecDepth 100000 in
theorem sort_ins (A : Option Addr) (c : Nat) (F : Value) (w : World) :
  Calls Tryd.prog 125 #[.slice A 0 c, .int .i64 0, .int .i64 0, F] w fun e w' => e = .returned (.tuple #[]) ∧ Below w.heap.size w w' := by
 go_enter Tryd.func125, Tryd.ntmps125
 go_wp2
 go_loopg [8] 0 (fun n i wr => i = .int .i64 1 ∧ Aq (Below w.heap.size w wr))
 case atStart => exact ⟨rfl, ⟨by repeat (first | exact Below.refl _ _ | apply zd | apply zb | apply zc)⟩⟩
 case round =>
  obtain ⟨rfl, hb⟩ := hrel
  go_wp2
  go_end0
  exact ⟨rfl, by repeat (first | exact hb.out | apply zd | apply zb | apply zc)⟩
set_option maxHeartbeats 2000000 in
set_option maxRecDepth 100000 in
theorem sort_stable (A : Option Addr) (c : Nat) (F : Value) (w : World) :
  Calls Tryd.prog 98 #[.slice A 0 c, .int .i64 0, F] w fun e w' => e = .returned (.tuple #[]) ∧ Below w.heap.size w w' := by
 have HB := Aq.mk (Below.refl w.heap.size w)
 go_enter Tryd.func98, Tryd.ntmps98
 go_wp2
 go_loopg [7, 8] 0 (fun n j k wr => j = .int .i64 0 ∧ k = .int .i64 20 ∧ Aq (Below w.heap.size w wr))
 case atStart => exact ⟨rfl, rfl, ⟨by repeat (first | exact HB.out | apply zd | apply zb | apply zc)⟩⟩
 case round =>
  obtain ⟨rfl, rfl, hb⟩ := hrel
  clear HB
  have HB := Aq.mk hb.out
  clear hb
  go_wp2_with (go_at_call 125; refine (sort_ins A c F _).mono ?_; rintro e w1 ⟨rfl, hb⟩; have n1_ := Aq.mk (zv (by repeat (first | exact HB.out | apply zd | apply zb | apply zc)) hb); clear HB hb; have HB := n1_; clear n1_)
  go_loopg [6] 0 (fun n i wr => i = .int .i64 20 ∧ Aq (Below w.heap.size w wr))
  case atStart => exact ⟨rfl, ⟨by repeat (first | exact HB.out | apply zd | apply zb | apply zc)⟩⟩
  case round =>
   obtain ⟨rfl, hb⟩ := hrel
   go_wp2
   go_end0
   exact ⟨rfl, by repeat (first | exact hb.out | apply zd | apply zb | apply zc)⟩
set_option maxHeartbeats 2000000 in
set_option maxRecDepth 100000 in
theorem sort_none (A : Option Addr) (c : Nat) (F : Value) (w : World) :
  Calls Tryd.prog 47 #[.slice A 0 c, F] w fun e w' => e = .returned (.tuple #[]) ∧ Below w.heap.size w w' := by
 have HB := Aq.mk (Below.refl w.heap.size w)
 go_enter Tryd.func47, Tryd.ntmps47
 go_wp2_with (go_at_call 98; refine (sort_stable A c F _).mono ?_; rintro e w1 ⟨rfl, hb⟩; have n1_ := Aq.mk (zv (by repeat (first | exact HB.out | apply zd | apply zb | apply zc)) hb); clear HB hb; have HB := n1_; clear n1_)
 go_end0
 exact ⟨rfl, by repeat (first | exact HB.out | apply zd | apply zb | apply zc)⟩
end Go.Proofs.YtmnfjbmhlabdaaaDoor.Pr
