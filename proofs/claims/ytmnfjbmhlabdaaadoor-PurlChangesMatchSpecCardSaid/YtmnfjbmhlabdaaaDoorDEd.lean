/- purl.dashed: the call answers what its Lean function says. Conditions: a text of at most 140737488355328 bytes. -/
import Derived.Test.YtmnfjbmhlabdaaaDoorDXa
import Derived.Test.YtmnfjbmhlabdaaaDoorProg
import Derived.Test.YtmnfjbmhlabdaaaDoorDSh
import Derived.Test.YtmnfjbmhlabdaaaDoorDW
import Derived.WalkKit
import Derived.Deep.LoopGhost
import Derived.Deep.DeepMust
import Derived.Laws.Tables
import Derived.Lib.Builder
namespace Go.Proofs.YtmnfjbmhlabdaaaDoor.Pr
open Go.RowKit Go.Proofs.YtmnfjbmhlabdaaaDoorW.PrintWords Go.Proofs.YtmnfjbmhlabdaaaDoorW.PrintLast Go.Proofs.YtmnfjbmhlabdaaaDoorW.PrintMore
def isDashC (c : UInt8) : Bool := c.toNat == 45 || c.toNat == 95 || c.toNat == 46
theorem isDash_c (c : UInt8) (w : World) : Calls Tryd.prog 127 #[.int .u8 c.toNat] w fun e w' => e = .returned (.bool (isDashC c)) ∧ w' = w := by
  unfold isDashC
  generalize c.toNat = n
  by_cases h1 : n = 45
  · subst h1
    go_enter Tryd.func127, Tryd.ntmps127
    go_wp2
    go_ret
    exact ⟨rfl, rfl⟩
  · have f1 : ((n : Int) == 45) = false := ye.2 (by omega)
    by_cases h2 : n = 95
    · subst h2
      go_enter Tryd.func127, Tryd.ntmps127
      go_wp2
      go_ret
      exact ⟨rfl, rfl⟩
    · have f2 : ((n : Int) == 95) = false := ye.2 (by omega)
      have g1 : (n == 45) = false := ye.2 h1
      have g2 : (n == 95) = false := ye.2 h2
      rw [g1, g2, Bool.false_or, Bool.false_or]
      obtain ⟨b, hb⟩ : ∃ b, ((n : Int) == 46) = b := ⟨_, rfl⟩
      have hb2 : (n == 46) = b := by
        rw [← hb]
        by_cases h : n = 46
        · subst h; rfl
        · rw [ye.2 h]; exact (ye.2 (by omega)).symm
      rw [hb2]
      clear hb2 g1 g2 h1 h2
      go_enter Tryd.func127, Tryd.ntmps127
      go_wp2
      go_ret
      exact ⟨rfl, rfl⟩
def dashGo : Bool → List UInt8 → List UInt8
  | _, [] => []
  | p, c :: r => if isDashC c = true then (if p = true then dashGo true r else 45 :: dashGo true r) else c :: dashGo false r
def prevD (l : List UInt8) (k : Nat) : Bool := decide (0 < k) && isDashC (l.getD (k - 1) 0)
def dashS (a : ByteArray) : ByteArray := ⟨(dashGo false a.data.toList).toArray⟩
def purl_dashed.f (a0 : ByteArray) : Option ByteArray := if a0.size ≤ 140737488355328 then some (dashS a0) else none
set_option maxHeartbeats 3200000 in
set_option maxRecDepth 100000 in
theorem purl_dashed.calls (a0 : ByteArray) (r : ByteArray) (w : World) (h : purl_dashed.f a0 = some r) :
    Calls Tryd.prog 101 #[.string a0] w fun e w' => e = .returned (.string r) ∧ Below w.heap.size w w' := by
  unfold purl_dashed.f at h
  split at h
  case isFalse => cases h
  rename_i hsz
  have HSZ := Aq.mk hsz
  clear hsz
  obtain rfl := yg h
  clear h
  go_enter Tryd.func101, Tryd.ntmps101
  go_wp2
  go_loopg [4, 7, 10, 20] a0.size (fun n _ i _ _ wr => ∃ (k : Nat) (acc : List UInt8), i = .int .i64 k ∧ Aq (k + n = a0.size) ∧ Aq (Lib.IsBuilder 117 5 w.heap.size w.heap.size (Lib.byteCells acc) wr) ∧ Aq (Below w.heap.size w wr) ∧ Aq (acc ++ dashGo (prevD a0.data.toList k) (a0.data.toList.drop k) = dashGo false a0.data.toList) ∧ Aq (acc.length ≤ k))
  case atStart => exact ⟨0, [], rfl, ⟨by omega⟩, ⟨Lib.fresh_isBuilder 117 5 w⟩, ⟨zd (Below.refl _ _) _⟩, ⟨rfl⟩, ⟨by simp⟩⟩
  case round =>
    obtain ⟨k, acc, rfl, hk, hI, hb, ha, hl⟩ := hrel
    by_cases hlt : k < a0.size
    · have h1 : (k : Int) < (a0.size : Int) := by omega
      have hw : wrap64 ((k : Int) + 1) = ((k + 1 : Nat) : Int) := by have := HSZ.out; unfold wrap64; omega
      have HW := Aq.mk hw
      clear hw
      have hdr : a0.data.toList.drop k = a0[k]'hlt :: a0.data.toList.drop (k + 1) := List.drop_eq_getElem_cons (by simpa using hlt)
      have hpv : prevD a0.data.toList (k + 1) = isDashC (a0[k]'hlt) := by
        unfold prevD
        rw [zk (Nat.succ_pos k), Bool.true_and, Nat.add_sub_cancel]
        congr 1
        have h2 : k < a0.data.toList.length := by simpa using hlt
        rw [List.getD_eq_getElem?_getD, List.getElem?_eq_getElem h2]
        rfl
      have HDR := Aq.mk hdr
      have HPV := Aq.mk hpv
      clear hdr hpv
      have hBw := hb.out.size
      have hlen : (Lib.byteCells acc).length + 1 ≤ 140737488355328 := by rw [Lib.byteCells_length]; have := hl.out; have := HSZ.out; omega
      cases hd : isDashC (a0[k]'hlt)
      · have HD := Aq.mk hd
        go_wp2_with (first | (go_at_call 127; refine (isDash_c _ _).mono ?_; rintro e w2 ⟨rfl, rfl⟩; rw [HD.out]) | (go_at_call 103; refine (Tryd.bWriteByte w.heap.size w.heap.size _ _ _ hI.out hlen hBw).mono ?_; rintro e w2 ⟨rfl, hI2, hb2⟩))
        rw [HW.out]
        go_roundg (gk - 1)
        case measure => have := hk.out; omega
        case rel =>
          refine ⟨k + 1, acc ++ [a0[k]'hlt], rfl, ⟨by have := hk.out; omega⟩, ⟨Or.inr (by rw [show Lib.byteCells (acc ++ [a0[k]'hlt]) = Lib.byteCells acc ++ [Value.int .u8 (a0[k]'hlt).toNat] from by simp [Lib.byteCells]]; exact hI2)⟩, ⟨hb.out.trans hb2⟩, ⟨?_⟩, ⟨by have := hl.out; simp; omega⟩⟩
          have h1 := ha.out
          rw [HDR.out] at h1
          rw [← h1, HPV.out, HD.out, List.append_assoc]
          conv => rhs; rw [dashGo, if_neg (by rw [HD.out]; decide)]
          rfl
      · have HD := Aq.mk hd
        cases hp : prevD a0.data.toList k
        · have HP := Aq.mk hp
          by_cases hk0 : k = 0
          · have e1 : ((k : Int) == 0) = true := by simp [hk0]
            have HK0 := Aq.mk hk0
            clear hk0
            go_wp2_with (first | (go_at_call 127; refine (isDash_c _ _).mono ?_; rintro e w2 ⟨rfl, rfl⟩; rw [HD.out]) | (go_at_call 103; refine (Tryd.bWriteByte w.heap.size w.heap.size _ _ _ hI.out hlen hBw).mono ?_; rintro e w2 ⟨rfl, hI2, hb2⟩))
            rw [HW.out]
            go_roundg (gk - 1)
            case measure => have := hk.out; omega
            case rel =>
              refine ⟨k + 1, acc ++ [45], rfl, ⟨by have := hk.out; omega⟩, ⟨Or.inr (by rw [show Lib.byteCells (acc ++ [45]) = Lib.byteCells acc ++ [Value.int .u8 45] from by simp [Lib.byteCells]]; exact hI2)⟩, ⟨hb.out.trans hb2⟩, ⟨?_⟩, ⟨by have := hl.out; simp; omega⟩⟩
              have h1 := ha.out
              rw [HDR.out, HP.out] at h1
              rw [← h1, HPV.out, HD.out, List.append_assoc]
              conv => rhs; rw [dashGo, if_pos HD.out, if_neg (by decide)]
              rfl
          · have e1 : ((k : Int) == 0) = false := ye.2 (by omega)
            have hk1 : k - 1 < a0.size := by omega
            have hw1 : wrap64 ((k : Int) - 1) = ((k - 1 : Nat) : Int) := by have := HSZ.out; unfold wrap64; omega
            have hlt1 : ((k - 1 : Nat) : Int) < (a0.size : Int) := by omega
            have hpd : isDashC (a0[k - 1]'hk1) = false := by
              have h0 := HP.out
              unfold prevD at h0
              rw [zk (by omega : 0 < k), Bool.true_and] at h0
              rw [← h0]
              congr 1
              have h2 : k - 1 < a0.data.toList.length := by simpa using hk1
              rw [List.getD_eq_getElem?_getD, List.getElem?_eq_getElem h2]
              rfl
            have HPD := Aq.mk hpd
            clear hpd
            go_wp2_with (first | (go_at_call 127; refine (isDash_c _ _).mono ?_; rintro e w2 ⟨rfl, rfl⟩; first | rw [HD.out] | rw [HPD.out]) | (go_at_call 103; refine (Tryd.bWriteByte w.heap.size w.heap.size _ _ _ hI.out hlen hBw).mono ?_; rintro e w2 ⟨rfl, hI2, hb2⟩))
            rw [HW.out]
            go_roundg (gk - 1)
            case measure => have := hk.out; omega
            case rel =>
              refine ⟨k + 1, acc ++ [45], rfl, ⟨by have := hk.out; omega⟩, ⟨Or.inr (by rw [show Lib.byteCells (acc ++ [45]) = Lib.byteCells acc ++ [Value.int .u8 45] from by simp [Lib.byteCells]]; exact hI2)⟩, ⟨hb.out.trans hb2⟩, ⟨?_⟩, ⟨by have := hl.out; simp; omega⟩⟩
              have h1 := ha.out
              rw [HDR.out, HP.out] at h1
              rw [← h1, HPV.out, HD.out, List.append_assoc]
              conv => rhs; rw [dashGo, if_pos HD.out, if_neg (by decide)]
              rfl
        · have HP := Aq.mk hp
          have hk0 : ¬ k = 0 := by
            rintro rfl
            have h0 := HP.out
            simp [prevD] at h0
          have e1 : ((k : Int) == 0) = false := ye.2 (by omega)
          have hk1 : k - 1 < a0.size := by omega
          have hw1 : wrap64 ((k : Int) - 1) = ((k - 1 : Nat) : Int) := by have := HSZ.out; unfold wrap64; omega
          have hlt1 : ((k - 1 : Nat) : Int) < (a0.size : Int) := by omega
          have hpd : isDashC (a0[k - 1]'hk1) = true := by
            have h0 := HP.out
            unfold prevD at h0
            rw [zk (by omega : 0 < k), Bool.true_and] at h0
            rw [← h0]
            congr 1
            have h2 : k - 1 < a0.data.toList.length := by simpa using hk1
            rw [List.getD_eq_getElem?_getD, List.getElem?_eq_getElem h2]
            rfl
          have HPD := Aq.mk hpd
          clear hpd
          go_wp2_with (first | (go_at_call 127; refine (isDash_c _ _).mono ?_; rintro e w2 ⟨rfl, rfl⟩; first | rw [HD.out] | rw [HPD.out]))
          rw [HW.out]
          go_roundg (gk - 1)
          case measure => have := hk.out; omega
          case rel =>
            refine ⟨k + 1, acc, rfl, ⟨by have := hk.out; omega⟩, hI, hb, ⟨?_⟩, ⟨by have := hl.out; omega⟩⟩
            have h1 := ha.out
            rw [HDR.out, HP.out] at h1
            rw [← h1, HPV.out, HD.out]
            conv => rhs; rw [dashGo, if_pos HD.out, if_pos rfl]
    · have h1 : ¬ (k : Int) < (a0.size : Int) := by omega
      have he : acc = dashGo false a0.data.toList := by
        have h0 := ha.out
        rw [List.drop_of_length_le (by have h3 : a0.data.toList.length = a0.size := by simp
                                       omega)] at h0
        rw [← h0]
        simp [dashGo]
      have HE := Aq.mk he
      clear he
      have hBw := hb.out.size
      go_wp2_with (first | (go_at_call 89; refine (Tryd.bString w.heap.size w.heap.size _ _ hI.out hBw).mono ?_; rintro e w2 ⟨rfl, hb2⟩))
      go_ret
      exact ⟨by rw [HE.out]; rfl, hb.out.trans hb2⟩
end Go.Proofs.YtmnfjbmhlabdaaaDoor.Pr
