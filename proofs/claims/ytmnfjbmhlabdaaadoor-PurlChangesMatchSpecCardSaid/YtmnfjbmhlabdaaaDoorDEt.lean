/- The reference's small, and strings.Contains of one byte: each call answers what its Lean function says. Conditions: those of the Lean functions. -/
import Derived.Test.YtmnfjbmhlabdaaaDoorDXa
import Derived.Test.YtmnfjbmhlabdaaaDoorDEb
import Derived.Test.YtmnfjbmhlabdaaaDoorDEc
namespace Go.Proofs.YtmnfjbmhlabdaaaDoor.Pr
open Go.RowKit Go.Proofs.YtmnfjbmhlabdaaaDoorW.PrintWords Go.Proofs.YtmnfjbmhlabdaaaDoorW.PrintLast Go.Proofs.YtmnfjbmhlabdaaaDoorW.PrintMore
def r2_small.f (a0 : ByteArray) : Option ByteArray := if a0.size < 9223372036854775807 then some (smallS a0) else none
set_option maxHeartbeats 3200000 in
set_option maxRecDepth 100000 in
theorem r2_small.calls (a0 : ByteArray) (r : ByteArray) (w : World) (h : r2_small.f a0 = some r) :
  Calls Tryd.prog 86 #[.string a0] w fun e w' => e = .returned (.string r) ∧ Below w.heap.size w w' := by
 unfold r2_small.f at h
 split at h
 case isFalse => cases h
 rename_i hsz
 have HSZ := Aq.mk hsz
 clear hsz
 obtain rfl := yg h
 clear h
 obtain ⟨s1, s2⟩ := small_start w a0
 have S1 := Aq.mk s1
 have S2 := Aq.mk s2
 clear s1 s2
 have hcv : Sem.run Tryd.prog (convert 9 110 (.string a0)) w = .ok (.slice (some ⟨w.heap.size, 0, none⟩) a0.size (grownCap w a0.size 0 5)) (Lib.bytesWorld w 5 a0) := Lib.run_convert_string_bytes w 9 110 5 a0 Tryd.underlying9 Tryd.underlying110 Tryd.underlying5
 have HV := Aq.mk hcv
 clear hcv
 generalize grownCap w a0.size 0 5 = cap at HV
 generalize Lib.bytesWorld w 5 a0 = W1 at *
 go_enter Tryd.func86, Tryd.ntmps86
 go_wp2_with (refine gate_ (.convert 9 110 (.tmp 6)) rfl ?_; go_must (refine Kd.event_run (v := .slice (some ⟨w.heap.size, 0, none⟩) a0.size cap) (w1 := W1) rfl (by have hv := HV.out; go_simp) ?_))
 go_loopg [4, 5, 10] a0.size (fun n _ _ i wr => ∃ k : Nat, i = .int .i64 k ∧ Aq (k + n = a0.size) ∧ Aq (SmallAt a0 w.heap.size k wr) ∧ Aq (Below w.heap.size w wr))
 case atStart => exact ⟨0, rfl, ⟨by omega⟩, S1, S2⟩
 case round =>
  obtain ⟨k, rfl, hk, hs, hb⟩ := hrel
  by_cases hlt : k < a0.size
  ·have h1 : (k : Int) < (a0.size : Int) := by omega
   have hcell := hs.out.c k hlt
   have hfz := hs.out.f k hlt
   have hm : mixB a0 k k = a0.data.toList.getD k 0 := if_neg (Nat.lt_irrefl k)
   rw [hm] at hcell
   clear hm
   have hadd : ((⟨w.heap.size, 0, none⟩ : Addr).add k) = ⟨w.heap.size, k, none⟩ := by unfold Addr.add; split <;> simp_all
   obtain ⟨c, hc⟩ : ∃ c : UInt8, c = a0.data.toList.getD k 0 := ⟨_, rfl⟩
   rw [← hc] at hcell
   have HC := Aq.mk hc
   clear hc
   have hc8 : c.toNat < 256 := c.toNat_lt
   by_cases hcap : 65 ≤ c.toNat ∧ c.toNat ≤ 90
   ·have e1 : decide (65 ≤ (c.toNat : Int)) = true := zk (by omega)
    have e2 : decide ((c.toNat : Int) ≤ 90) = true := zk (by omega)
    have hv : smallC c = c + 32 := if_pos hcap
    have hvn : ((smallC c).toNat : Int) = c.toNat + 32 := by rw [hv, UInt8.toNat_add]; simp; omega
    have HVN := Aq.mk hvn
    have HCAP := Aq.mk hcap
    clear hvn hv hcap
    go_wp2
    have hw : wrap64 ((k : Int) + 1) = ((k + 1 : Nat) : Int) := by have := HSZ.out; unfold wrap64; omega
    rw [hw]
    go_roundg (gk - 1)
    case measure => have := hk.out; omega
    case rel => exact ⟨k + 1, rfl, ⟨by have := hk.out; omega⟩, ⟨hs.out.set hlt _ (by rw [← HC.out, HVN.out]; congr 1; have := HCAP.out; omega)⟩, ⟨zf hb.out (Nat.le_refl _)⟩⟩
   ·have hv : smallC c = c := if_neg hcap
    have HVN := Aq.mk hv
    clear hv
    have hways : (decide (65 ≤ (c.toNat : Int)) = false) ∨ (decide (65 ≤ (c.toNat : Int)) = true ∧ decide ((c.toNat : Int) ≤ 90) = false) := by
     rcases Nat.lt_or_ge c.toNat 65 with h | h
     ·exact .inl (zl (by omega))
     ·exact .inr ⟨zk (by omega), zl (by omega)⟩
    clear hcap
    have hw : wrap64 ((k : Int) + 1) = ((k + 1 : Nat) : Int) := by have := HSZ.out; unfold wrap64; omega
    have HW := Aq.mk hw
    clear hw
    rcases hways with e1 | ⟨e1, e2⟩
    all_goals
     go_wp2
     rw [HW.out]
     go_roundg (gk - 1)
     case measure => have := hk.out; omega
     case rel => exact ⟨k + 1, rfl, ⟨by have := hk.out; omega⟩, ⟨hs.out.skip (by rw [← HC.out]; exact HVN.out)⟩, hb⟩
  ·have h1 : ¬ (k : Int) < (a0.size : Int) := by omega
   have hkk : k = a0.size := by have := hk.out; omega
   have HK := Aq.mk hkk
   clear hkk
   have hcv : ∀ W, W = wr → Sem.run Tryd.prog (convert 110 9 (.slice (some ⟨w.heap.size, 0, none⟩) a0.size cap)) W = .ok (.string (smallS a0)) W := by
    rintro W rfl
    rw [← small_nums]
    refine run_convert_bytes_arg W 110 5 Tryd.underlying110 Tryd.underlying5 w.heap.size 0 a0.size cap (a0.data.toList.map fun c => ((smallC c).toNat : Int)) (by simp) (fun i hi => ?_) 9 Tryd.underlying9
    rw [Nat.zero_add, hs.out.c i hi]
    unfold mixB
    rw [if_pos (by rw [HK.out]; exact hi)]
    have h2 : i < a0.data.size := hi
    simp only [List.getD_eq_getElem?_getD, List.getElem?_map, Array.getElem?_toList]
    rw [Array.getElem?_eq_getElem h2]
    rfl
   have HV2 := Aq.mk (hcv wr rfl)
   clear hcv
   go_wp2_with (refine gate_ (.convert 110 9 (.tmp 27)) rfl ?_; go_must (refine Kd.event_run (v := .string (smallS a0)) (w1 := wr) rfl (by have hv := HV2.out; go_simp) ?_))
   go_ret
   exact ⟨rfl, hb.out⟩
end Go.Proofs.YtmnfjbmhlabdaaaDoor.Pr
