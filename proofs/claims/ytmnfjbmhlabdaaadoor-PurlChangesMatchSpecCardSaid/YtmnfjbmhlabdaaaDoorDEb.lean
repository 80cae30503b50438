/- purl.small: the call answers what its Lean function says. Conditions: none. -/
import Derived.Test.YtmnfjbmhlabdaaaDoorDXa
import Derived.Test.YtmnfjbmhlabdaaaDoorProg
import Derived.Test.YtmnfjbmhlabdaaaDoorDSh
import Derived.Test.YtmnfjbmhlabdaaaDoorDW
import Derived.WalkKit
import Derived.Deep.LoopGhost
import Derived.Deep.DeepMust
import Derived.Laws.Tables
import Derived.Laws.BytesArg
import Derived.Lib.ConvBytes
namespace Go.Proofs.YtmnfjbmhlabdaaaDoor.Pr
open Go.RowKit Go.Proofs.YtmnfjbmhlabdaaaDoorW.PrintWords Go.Proofs.YtmnfjbmhlabdaaaDoorW.PrintLast Go.Proofs.YtmnfjbmhlabdaaaDoorW.PrintMore
def smallC (c : UInt8) : UInt8 := if 65 ≤ c.toNat ∧ c.toNat ≤ 90 then c + 32 else c
def smallS (a : ByteArray) : ByteArray := ⟨(a.data.toList.map smallC).toArray⟩
def mixB (a0 : ByteArray) (k j : Nat) : UInt8 := if j < k then smallC (a0.data.toList.getD j 0) else a0.data.toList.getD j 0
structure SmallAt (a0 : ByteArray) (g k : Nat) (w : World) : Prop where
 c : ∀ j, j < a0.size → w.cell? ⟨g, j, none⟩ = some (.int .u8 (mixB a0 k j).toNat)
 f : ∀ j, j < a0.size → w.frozen? ⟨g, j, none⟩ = false
theorem SmallAt.set {a0 : ByteArray} {g k : Nat} {w : World} (h : SmallAt a0 g k w) (hk : k < a0.size) (v : Value) (hv : v = .int .u8 (smallC (a0.data.toList.getD k 0)).toNat) : SmallAt a0 g (k + 1) (w.setCell ⟨g, k, none⟩ v) := by
 subst hv
 refine ⟨fun j hj => ?_, fun j hj => by rw [World.frozen?_setCell]; exact h.f j hj⟩
 by_cases hjk : j = k
 ·subst hjk
  rw [World.cell?_setCell_same _ _ _ (h.c j hj)]
  unfold mixB
  rw [if_pos (Nat.lt_succ_self j)]
 ·rw [World.cell?_setCell_other _ _ _ _ (by intro he; injection he with _ h2; exact hjk h2.symm), h.c j hj]
  unfold mixB
  by_cases h1 : j < k
  ·rw [if_pos h1, if_pos (by omega)]
  ·rw [if_neg h1, if_neg (by omega)]
theorem SmallAt.skip {a0 : ByteArray} {g k : Nat} {w : World} (h : SmallAt a0 g k w) (hv : smallC (a0.data.toList.getD k 0) = a0.data.toList.getD k 0) : SmallAt a0 g (k + 1) w := by
 refine ⟨fun j hj => ?_, h.f⟩
 rw [h.c j hj]
 unfold mixB
 by_cases h1 : j < k
 ·rw [if_pos h1, if_pos (by omega)]
 ·rw [if_neg h1]
  by_cases h2 : j = k
  ·subst h2; rw [if_pos (Nat.lt_succ_self j), hv]
  ·rw [if_neg (by omega)]
theorem small_start (w : World) (a0 : ByteArray) : SmallAt a0 w.heap.size 0 (Lib.bytesWorld w 5 a0) ∧ Below w.heap.size w (Lib.bytesWorld w 5 a0) := by
 refine ⟨⟨fun j hj => ?_, fun j hj => ?_⟩, ⟨rfl, rfl, rfl, ?_, fun k hk => Lib.bytesWorld_at_old w 5 a0 k hk⟩⟩
 ·rw [Lib.bytesWorld_cell w 5 a0 j hj]
  unfold mixB
  rw [if_neg (Nat.not_lt_zero j)]
 ·unfold World.frozen?
  rw [Lib.bytesWorld_at_new]
  have : (Lib.bytesCells w 5 a0).size ≥ a0.size := by unfold Lib.bytesCells; simp
  simp
  omega
 ·rw [Lib.bytesWorld_size]; omega
def purl_small.f (a0 : ByteArray) : Option ByteArray := if a0.size < 9223372036854775807 then some (smallS a0) else none
theorem small_nums (a0 : ByteArray) : strOfNums (a0.data.toList.map fun c => ((smallC c).toNat : Int)) = smallS a0 := by
 unfold strOfNums smallS
 simp
set_option maxHeartbeats 3200000 in
set_option maxRecDepth 100000 in
theorem purl_small.calls (a0 : ByteArray) (r : ByteArray) (w : World) (h : purl_small.f a0 = some r) :
  Calls Tryd.prog 100 #[.string a0] w fun e w' => e = .returned (.string r) ∧ Below w.heap.size w w' := by
 unfold purl_small.f at h
 split at h
 case isFalse => cases h
 rename_i hsz
 have HSZ := Aq.mk hsz
 clear hsz
 obtain rfl := yg h
 clear h
 obtain ⟨s1, s2⟩ := small_start w a0
 have S1 := Aq.mk s1
 have S2 := Aq.mk s2
 clear s1 s2
 have hcv : Sem.run Tryd.prog (convert 9 110 (.string a0)) w = .ok (.slice (some ⟨w.heap.size, 0, none⟩) a0.size (grownCap w a0.size 0 5)) (Lib.bytesWorld w 5 a0) := Lib.run_convert_string_bytes w 9 110 5 a0 Tryd.underlying9 Tryd.underlying110 Tryd.underlying5
 have HV := Aq.mk hcv
 clear hcv
 generalize grownCap w a0.size 0 5 = cap at HV
 generalize Lib.bytesWorld w 5 a0 = W1 at *
 go_enter Tryd.func100, Tryd.ntmps100
 go_wp2_with (refine gate_ (.convert 9 110 (.tmp 6)) rfl ?_; go_must (refine Kd.event_run (v := .slice (some ⟨w.heap.size, 0, none⟩) a0.size cap) (w1 := W1) rfl (by have hv := HV.out; go_simp) ?_))
 go_loopg [4, 5, 10] a0.size (fun n _ _ i wr => ∃ k : Nat, i = .int .i64 k ∧ Aq (k + n = a0.size) ∧ Aq (SmallAt a0 w.heap.size k wr) ∧ Aq (Below w.heap.size w wr))
 case atStart => exact ⟨0, rfl, ⟨by omega⟩, S1, S2⟩
 case round =>
  obtain ⟨k, rfl, hk, hs, hb⟩ := hrel
  by_cases hlt : k < a0.size
  ·have h1 : (k : Int) < (a0.size : Int) := by omega
   have hcell := hs.out.c k hlt
   have hfz := hs.out.f k hlt
   have hm : mixB a0 k k = a0.data.toList.getD k 0 := if_neg (Nat.lt_irrefl k)
   rw [hm] at hcell
   clear hm
   have hadd : ((⟨w.heap.size, 0, none⟩ : Addr).add k) = ⟨w.heap.size, k, none⟩ := by unfold Addr.add; split <;> simp_all
   obtain ⟨c, hc⟩ : ∃ c : UInt8, c = a0.data.toList.getD k 0 := ⟨_, rfl⟩
   rw [← hc] at hcell
   have HC := Aq.mk hc
   clear hc
   have hc8 : c.toNat < 256 := c.toNat_lt
   by_cases hcap : 65 ≤ c.toNat ∧ c.toNat ≤ 90
   ·have e1 : decide (65 ≤ (c.toNat : Int)) = true := zk (by omega)
    have e2 : decide ((c.toNat : Int) ≤ 90) = true := zk (by omega)
    have hv : smallC c = c + 32 := if_pos hcap
    have hvn : ((smallC c).toNat : Int) = c.toNat + 32 := by rw [hv, UInt8.toNat_add]; simp; omega
    have HVN := Aq.mk hvn
    have HCAP := Aq.mk hcap
    clear hvn hv hcap
    go_wp2
    have hw : wrap64 ((k : Int) + 1) = ((k + 1 : Nat) : Int) := by have := HSZ.out; unfold wrap64; omega
    rw [hw]
    go_roundg (gk - 1)
    case measure => have := hk.out; omega
    case rel => exact ⟨k + 1, rfl, ⟨by have := hk.out; omega⟩, ⟨hs.out.set hlt _ (by rw [← HC.out, HVN.out]; congr 1; have := HCAP.out; omega)⟩, ⟨zf hb.out (Nat.le_refl _)⟩⟩
   ·have hv : smallC c = c := if_neg hcap
    have HVN := Aq.mk hv
    clear hv
    have hways : (decide (65 ≤ (c.toNat : Int)) = false) ∨ (decide (65 ≤ (c.toNat : Int)) = true ∧ decide ((c.toNat : Int) ≤ 90) = false) := by
     rcases Nat.lt_or_ge c.toNat 65 with h | h
     ·exact .inl (zl (by omega))
     ·exact .inr ⟨zk (by omega), zl (by omega)⟩
    clear hcap
    have hw : wrap64 ((k : Int) + 1) = ((k + 1 : Nat) : Int) := by have := HSZ.out; unfold wrap64; omega
    have HW := Aq.mk hw
    clear hw
    rcases hways with e1 | ⟨e1, e2⟩
    all_goals
     go_wp2
     rw [HW.out]
     go_roundg (gk - 1)
     case measure => have := hk.out; omega
     case rel => exact ⟨k + 1, rfl, ⟨by have := hk.out; omega⟩, ⟨hs.out.skip (by rw [← HC.out]; exact HVN.out)⟩, hb⟩
  ·have h1 : ¬ (k : Int) < (a0.size : Int) := by omega
   have hkk : k = a0.size := by have := hk.out; omega
   have HK := Aq.mk hkk
   clear hkk
   have hcv : ∀ W, W = wr → Sem.run Tryd.prog (convert 110 9 (.slice (some ⟨w.heap.size, 0, none⟩) a0.size cap)) W = .ok (.string (smallS a0)) W := by
    rintro W rfl
    rw [← small_nums]
    refine run_convert_bytes_arg W 110 5 Tryd.underlying110 Tryd.underlying5 w.heap.size 0 a0.size cap (a0.data.toList.map fun c => ((smallC c).toNat : Int)) (by simp) (fun i hi => ?_) 9 Tryd.underlying9
    rw [Nat.zero_add, hs.out.c i hi]
    unfold mixB
    rw [if_pos (by rw [HK.out]; exact hi)]
    have h2 : i < a0.data.size := hi
    simp only [List.getD_eq_getElem?_getD, List.getElem?_map, Array.getElem?_toList]
    rw [Array.getElem?_eq_getElem h2]
    rfl
   have HV2 := Aq.mk (hcv wr rfl)
   clear hcv
   go_wp2_with (refine gate_ (.convert 110 9 (.tmp 28)) rfl ?_; go_must (refine Kd.event_run (v := .string (smallS a0)) (w1 := wr) rfl (by have hv := HV2.out; go_simp) ?_))
   go_ret
   exact ⟨rfl, hb.out⟩
end Go.Proofs.YtmnfjbmhlabdaaaDoor.Pr
