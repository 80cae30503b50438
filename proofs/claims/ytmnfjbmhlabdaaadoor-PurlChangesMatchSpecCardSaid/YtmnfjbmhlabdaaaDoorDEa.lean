/- purl's kinds: rules, place, Rule, Kinds: each call answers what its Lean function says. Conditions: none. -/
import Derived.Test.YtmnfjbmhlabdaaaDoorDXa
import Derived.Test.YtmnfjbmhlabdaaaDoorProg
import Derived.Test.YtmnfjbmhlabdaaaDoorDSh
import Derived.Test.YtmnfjbmhlabdaaaDoorDW
import Derived.WalkKit
import Derived.Deep.LoopGhost
import Derived.Laws.Tables
import Derived.Test.YtmnfjbmhlabdaaaDoorDEr
namespace Go.Proofs.YtmnfjbmhlabdaaaDoor.Pr
open Go.RowKit Go.Proofs.YtmnfjbmhlabdaaaDoorW.PrintWords Go.Proofs.YtmnfjbmhlabdaaaDoorW.PrintLast Go.Proofs.YtmnfjbmhlabdaaaDoorW.PrintMore
theorem run_index_agg {P : Program} (w : World) (t e : TypeId) (n k sz : Nat) (cs : Array Value) (ht : P.underlying t = some (.array n e)) (hk : k < n) (ha : (isAgg e).run P w = .ok true w) (hz : (sizeOf e).run P w = .ok sz w) :
  Sem.run P (Instr.index t (.agg cs) (.int .i64 (k : Int))) w = .ok (.agg (cs.extract (k * sz) (k * sz + sz))) w := by
 have h1 : ¬ n ≤ k := Nat.not_le.2 hk
 simp [Instr.index, asIntOf, Sem.run_bind, run_underlying ht, hz, part, ha, h1]
theorem idx0 (w : World) : Sem.run Tryd.prog (Instr.index 79 (.agg rulesV) (.int .i64 0)) w = .ok (.agg #[.string ⟨#[100, 111, 116, 116, 101, 100]⟩, .int .i64 2, .bool true, .bool false, .int .i64 1]) w := run_index_agg w 79 37 5 0 5 rulesV Tryd.underlying79 (by decide) (Tryd.isAgg37 w) (Tryd.sizeOf37 w)
theorem idx1 (w : World) : Sem.run Tryd.prog (Instr.index 79 (.agg rulesV) (.int .i64 1)) w = .ok (.agg #[.string ⟨#[114, 101, 118, 105, 115, 101, 100]⟩, .int .i64 3, .bool true, .bool false, .int .i64 2]) w := run_index_agg w 79 37 5 1 5 rulesV Tryd.underlying79 (by decide) (Tryd.isAgg37 w) (Tryd.sizeOf37 w)
theorem idx2 (w : World) : Sem.run Tryd.prog (Instr.index 79 (.agg rulesV) (.int .i64 2)) w = .ok (.agg #[.string ⟨#[115, 116, 97, 103, 101, 100]⟩, .int .i64 1, .bool true, .bool true, .int .i64 3]) w := run_index_agg w 79 37 5 2 5 rulesV Tryd.underlying79 (by decide) (Tryd.isAgg37 w) (Tryd.sizeOf37 w)
theorem idx3 (w : World) : Sem.run Tryd.prog (Instr.index 79 (.agg rulesV) (.int .i64 3)) w = .ok (.agg #[.string ⟨#[113, 117, 97, 108, 105, 102, 105, 101, 100]⟩, .int .i64 3, .bool false, .bool false, .int .i64 4]) w := run_index_agg w 79 37 5 3 5 rulesV Tryd.underlying79 (by decide) (Tryd.isAgg37 w) (Tryd.sizeOf37 w)
theorem idx4 (w : World) : Sem.run Tryd.prog (Instr.index 79 (.agg rulesV) (.int .i64 4)) w = .ok (.agg #[.string ⟨#[112, 108, 97, 105, 110]⟩, .int .i64 2, .bool false, .bool false, .int .i64 5]) w := run_index_agg w 79 37 5 4 5 rulesV Tryd.underlying79 (by decide) (Tryd.isAgg37 w) (Tryd.sizeOf37 w)
structure Rules5 (R : Array Value) : Prop where
 i0 : ∀ w, Sem.run Tryd.prog (Instr.index 79 (.agg R) (.int .i64 0)) w = .ok (.agg #[.string ⟨#[100, 111, 116, 116, 101, 100]⟩, .int .i64 2, .bool true, .bool false, .int .i64 1]) w
 i1 : ∀ w, Sem.run Tryd.prog (Instr.index 79 (.agg R) (.int .i64 1)) w = .ok (.agg #[.string ⟨#[114, 101, 118, 105, 115, 101, 100]⟩, .int .i64 3, .bool true, .bool false, .int .i64 2]) w
 i2 : ∀ w, Sem.run Tryd.prog (Instr.index 79 (.agg R) (.int .i64 2)) w = .ok (.agg #[.string ⟨#[115, 116, 97, 103, 101, 100]⟩, .int .i64 1, .bool true, .bool true, .int .i64 3]) w
 i3 : ∀ w, Sem.run Tryd.prog (Instr.index 79 (.agg R) (.int .i64 3)) w = .ok (.agg #[.string ⟨#[113, 117, 97, 108, 105, 102, 105, 101, 100]⟩, .int .i64 3, .bool false, .bool false, .int .i64 4]) w
 i4 : ∀ w, Sem.run Tryd.prog (Instr.index 79 (.agg R) (.int .i64 4)) w = .ok (.agg #[.string ⟨#[112, 108, 97, 105, 110]⟩, .int .i64 2, .bool false, .bool false, .int .i64 5]) w
theorem rules5 : Rules5 rulesV := ⟨idx0, idx1, idx2, idx3, idx4⟩
theorem rulesR (w : World) : Calls Tryd.prog 58 #[] w fun e w' => ∃ R, e = .returned (.agg R) ∧ Rules5 R ∧ Below w.heap.size w w' := (rulesC w).mono fun _ _ h => ⟨rulesV, h.1, rules5, h.2⟩
def placeN (a : List UInt8) : Nat := if a = [100, 111, 116, 116, 101, 100] then 0 else if a = [114, 101, 118, 105, 115, 101, 100] then 1 else if a = [115, 116, 97, 103, 101, 100] then 2 else if a = [113, 117, 97, 108, 105, 102, 105, 101, 100] then 3 else if a = [112, 108, 97, 105, 110] then 4 else 5
def placeI (a : List UInt8) : Int := if placeN a = 5 then -1 else (placeN a : Int)
def kindL : List (List UInt8) := [[100, 111, 116, 116, 101, 100], [114, 101, 118, 105, 115, 101, 100], [115, 116, 97, 103, 101, 100], [113, 117, 97, 108, 105, 102, 105, 101, 100], [112, 108, 97, 105, 110]]
theorem placeN_get (l : List UInt8) (k : Nat) (h : placeN l = k) (hk : k < 5) : kindL[k]? = some l := by
 unfold placeN at h
 (repeat' split at h) <;> subst h <;> first | (rename_i hl; subst hl; rfl) | omega
theorem placeN_le (l : List UInt8) : placeN l ≤ 5 := by unfold placeN; (repeat' split) <;> omega
def purl_place.f (a0 : ByteArray) : Option Int := some (placeI a0.toList)
set_option maxHeartbeats 3200000 in
set_option maxRecDepth 100000 in
theorem purl_place.calls (a0 : ByteArray) (r : Int) (w : World) (h : purl_place.f a0 = some r) :
  Calls Tryd.prog 57 #[.string a0] w fun e w' => e = .returned (.int .i64 r) ∧ Below w.heap.size w w' := by
 obtain rfl := yg h
 clear h
 go_enter Tryd.func57, Tryd.ntmps57
 go_wp2_with (go_at_call 58; refine (rulesR _).mono ?_; rintro e w1 ⟨R, rfl, hR, hb⟩; have HB := Aq.mk hb; have HR := Aq.mk hR; clear hb hR)
 go_loopg [6] 5 (fun n i wr => ∃ k : Nat, i = .int .i64 k ∧ Aq (k + n = 5) ∧ Aq (k ≤ placeN a0.toList) ∧ Aq (Below w.heap.size w wr))
 case atStart => exact ⟨0, rfl, ⟨rfl⟩, ⟨Nat.zero_le _⟩, HB⟩
 case round =>
  obtain ⟨k, rfl, hk, hp, hw⟩ := hrel
  have hp5 : placeN a0.toList ≤ 5 := placeN_le _
  rcases Nat.lt_or_ge k 5 with h5 | h5
  ·obtain rfl | rfl | rfl | rfl | rfl : k = 0 ∨ k = 1 ∨ k = 2 ∨ k = 3 ∨ k = 4 := by omega
   ·have hi := HR.out.i0
    have HPk := hp
    clear hp5 hp
    by_cases hm : a0.toList = [100, 111, 116, 116, 101, 100]
    ·have b1 : (a0.toList == [100, 111, 116, 116, 101, 100]) = true := yc.2 hm
     have b2 : ([100, 111, 116, 116, 101, 100] == a0.toList) = true := yc.2 hm.symm
     have hq : placeN a0.toList = 0 := by unfold placeN; rw [hm]; rfl
     have HQ := Aq.mk hq
     clear hm hq
     go_wp2
     go_ret
     exact ⟨by rw [show placeI a0.toList = _ from by unfold placeI; rw [HQ.out]]; rfl, by first | exact zd hw.out _ | exact (hw.out.alloc (by have := hw.out.size; omega) _)⟩
    ·have b1 : (a0.toList == [100, 111, 116, 116, 101, 100]) = false := ye.2 hm
     have b2 : ([100, 111, 116, 116, 101, 100] == a0.toList) = false := ye.2 (fun h => hm h.symm)
     have hq : 0 + 1 ≤ placeN a0.toList := by
      have h0 := HPk.out
      rcases Nat.lt_or_ge 0 (placeN a0.toList) with h | h
      ·exact h
      ·exfalso
       have he : placeN a0.toList = 0 := by omega
       exact hm (yg ((placeN_get _ _ he (by omega)).symm.trans rfl))
     have HQ := Aq.mk hq
     clear hm hq
     go_wp2
     go_roundg (gk - 1)
     case measure => have := hk.out; omega
     case rel => exact ⟨0 + 1, rfl, ⟨by have := hk.out; omega⟩, HQ, ⟨by first | exact zd hw.out _ | exact (hw.out.alloc (by have := hw.out.size; omega) _)⟩⟩
   ·have hi := HR.out.i1
    have HPk := hp
    clear hp5 hp
    by_cases hm : a0.toList = [114, 101, 118, 105, 115, 101, 100]
    ·have b1 : (a0.toList == [114, 101, 118, 105, 115, 101, 100]) = true := yc.2 hm
     have b2 : ([114, 101, 118, 105, 115, 101, 100] == a0.toList) = true := yc.2 hm.symm
     have hq : placeN a0.toList = 1 := by unfold placeN; rw [hm]; rfl
     have HQ := Aq.mk hq
     clear hm hq
     go_wp2
     go_ret
     exact ⟨by rw [show placeI a0.toList = _ from by unfold placeI; rw [HQ.out]]; rfl, by first | exact zd hw.out _ | exact (hw.out.alloc (by have := hw.out.size; omega) _)⟩
    ·have b1 : (a0.toList == [114, 101, 118, 105, 115, 101, 100]) = false := ye.2 hm
     have b2 : ([114, 101, 118, 105, 115, 101, 100] == a0.toList) = false := ye.2 (fun h => hm h.symm)
     have hq : 1 + 1 ≤ placeN a0.toList := by
      have h0 := HPk.out
      rcases Nat.lt_or_ge 1 (placeN a0.toList) with h | h
      ·exact h
      ·exfalso
       have he : placeN a0.toList = 1 := by omega
       exact hm (yg ((placeN_get _ _ he (by omega)).symm.trans rfl))
     have HQ := Aq.mk hq
     clear hm hq
     go_wp2
     go_roundg (gk - 1)
     case measure => have := hk.out; omega
     case rel => exact ⟨1 + 1, rfl, ⟨by have := hk.out; omega⟩, HQ, ⟨by first | exact zd hw.out _ | exact (hw.out.alloc (by have := hw.out.size; omega) _)⟩⟩
   ·have hi := HR.out.i2
    have HPk := hp
    clear hp5 hp
    by_cases hm : a0.toList = [115, 116, 97, 103, 101, 100]
    ·have b1 : (a0.toList == [115, 116, 97, 103, 101, 100]) = true := yc.2 hm
     have b2 : ([115, 116, 97, 103, 101, 100] == a0.toList) = true := yc.2 hm.symm
     have hq : placeN a0.toList = 2 := by unfold placeN; rw [hm]; rfl
     have HQ := Aq.mk hq
     clear hm hq
     go_wp2
     go_ret
     exact ⟨by rw [show placeI a0.toList = _ from by unfold placeI; rw [HQ.out]]; rfl, by first | exact zd hw.out _ | exact (hw.out.alloc (by have := hw.out.size; omega) _)⟩
    ·have b1 : (a0.toList == [115, 116, 97, 103, 101, 100]) = false := ye.2 hm
     have b2 : ([115, 116, 97, 103, 101, 100] == a0.toList) = false := ye.2 (fun h => hm h.symm)
     have hq : 2 + 1 ≤ placeN a0.toList := by
      have h0 := HPk.out
      rcases Nat.lt_or_ge 2 (placeN a0.toList) with h | h
      ·exact h
      ·exfalso
       have he : placeN a0.toList = 2 := by omega
       exact hm (yg ((placeN_get _ _ he (by omega)).symm.trans rfl))
     have HQ := Aq.mk hq
     clear hm hq
     go_wp2
     go_roundg (gk - 1)
     case measure => have := hk.out; omega
     case rel => exact ⟨2 + 1, rfl, ⟨by have := hk.out; omega⟩, HQ, ⟨by first | exact zd hw.out _ | exact (hw.out.alloc (by have := hw.out.size; omega) _)⟩⟩
   ·have hi := HR.out.i3
    have HPk := hp
    clear hp5 hp
    by_cases hm : a0.toList = [113, 117, 97, 108, 105, 102, 105, 101, 100]
    ·have b1 : (a0.toList == [113, 117, 97, 108, 105, 102, 105, 101, 100]) = true := yc.2 hm
     have b2 : ([113, 117, 97, 108, 105, 102, 105, 101, 100] == a0.toList) = true := yc.2 hm.symm
     have hq : placeN a0.toList = 3 := by unfold placeN; rw [hm]; rfl
     have HQ := Aq.mk hq
     clear hm hq
     go_wp2
     go_ret
     exact ⟨by rw [show placeI a0.toList = _ from by unfold placeI; rw [HQ.out]]; rfl, by first | exact zd hw.out _ | exact (hw.out.alloc (by have := hw.out.size; omega) _)⟩
    ·have b1 : (a0.toList == [113, 117, 97, 108, 105, 102, 105, 101, 100]) = false := ye.2 hm
     have b2 : ([113, 117, 97, 108, 105, 102, 105, 101, 100] == a0.toList) = false := ye.2 (fun h => hm h.symm)
     have hq : 3 + 1 ≤ placeN a0.toList := by
      have h0 := HPk.out
      rcases Nat.lt_or_ge 3 (placeN a0.toList) with h | h
      ·exact h
      ·exfalso
       have he : placeN a0.toList = 3 := by omega
       exact hm (yg ((placeN_get _ _ he (by omega)).symm.trans rfl))
     have HQ := Aq.mk hq
     clear hm hq
     go_wp2
     go_roundg (gk - 1)
     case measure => have := hk.out; omega
     case rel => exact ⟨3 + 1, rfl, ⟨by have := hk.out; omega⟩, HQ, ⟨by first | exact zd hw.out _ | exact (hw.out.alloc (by have := hw.out.size; omega) _)⟩⟩
   ·have hi := HR.out.i4
    have HPk := hp
    clear hp5 hp
    by_cases hm : a0.toList = [112, 108, 97, 105, 110]
    ·have b1 : (a0.toList == [112, 108, 97, 105, 110]) = true := yc.2 hm
     have b2 : ([112, 108, 97, 105, 110] == a0.toList) = true := yc.2 hm.symm
     have hq : placeN a0.toList = 4 := by unfold placeN; rw [hm]; rfl
     have HQ := Aq.mk hq
     clear hm hq
     go_wp2
     go_ret
     exact ⟨by rw [show placeI a0.toList = _ from by unfold placeI; rw [HQ.out]]; rfl, by first | exact zd hw.out _ | exact (hw.out.alloc (by have := hw.out.size; omega) _)⟩
    ·have b1 : (a0.toList == [112, 108, 97, 105, 110]) = false := ye.2 hm
     have b2 : ([112, 108, 97, 105, 110] == a0.toList) = false := ye.2 (fun h => hm h.symm)
     have hq : 4 + 1 ≤ placeN a0.toList := by
      have h0 := HPk.out
      rcases Nat.lt_or_ge 4 (placeN a0.toList) with h | h
      ·exact h
      ·exfalso
       have he : placeN a0.toList = 4 := by omega
       exact hm (yg ((placeN_get _ _ he (by omega)).symm.trans rfl))
     have HQ := Aq.mk hq
     clear hm hq
     go_wp2
     go_roundg (gk - 1)
     case measure => have := hk.out; omega
     case rel => exact ⟨4 + 1, rfl, ⟨by have := hk.out; omega⟩, HQ, ⟨by first | exact zd hw.out _ | exact (hw.out.alloc (by have := hw.out.size; omega) _)⟩⟩
  ·have hge : (5 : Int) ≤ k := by omega
   have hz : placeN a0.toList = 5 := by have := hp.out; omega
   have HZ := Aq.mk hz
   clear hz
   go_wp2
   go_ret
   exact ⟨by rw [show placeI a0.toList = _ from by unfold placeI; rw [HZ.out]]; rfl, hw.out⟩
end Go.Proofs.YtmnfjbmhlabdaaaDoor.Pr
