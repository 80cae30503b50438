/- purl.escaped: the call answers what its Lean function says. Conditions: a text of at most 46912496118442 bytes. -/
import Derived.Test.YtmnfjbmhlabdaaaDoorDXa
import Derived.Test.YtmnfjbmhlabdaaaDoorProg
import Derived.Test.YtmnfjbmhlabdaaaDoorDSh
import Derived.Test.YtmnfjbmhlabdaaaDoorDW
import Derived.WalkKit
import Derived.Deep.LoopGhost
import Derived.Deep.DeepMust
import Derived.Laws.Tables
import Derived.Lib.Builder
import Derived.StillTailTactics
namespace Go.Proofs.YtmnfjbmhlabdaaaDoor.Pr
open Go.RowKit Go.Proofs.YtmnfjbmhlabdaaaDoorW.PrintWords Go.Proofs.YtmnfjbmhlabdaaaDoorW.PrintLast Go.Proofs.YtmnfjbmhlabdaaaDoorW.PrintMore
def isLetterN (n : Nat) : Bool := (decide (97 ≤ n) && decide (n ≤ 122)) || (decide (65 ≤ n) && decide (n ≤ 90))
theorem isLetter_c (n : Nat) (w : World) : Calls Tryd.prog 102 #[.int .u8 n] w fun e w' => e = .returned (.bool (isLetterN n)) ∧ w' = w := by
  have hb : isLetterN n = true ∨ isLetterN n = false := by cases isLetterN n <;> simp
  by_cases h1 : 97 ≤ n
  · have f1 : decide (97 ≤ (n : Int)) = true := zk (by omega)
    by_cases h2 : n ≤ 122
    · have f2 : decide ((n : Int) ≤ 122) = true := zk (by omega)
      have hr : isLetterN n = true := by unfold isLetterN; rw [zk h1, zk h2]; rfl
      rw [hr]
      clear hb hr h1 h2
      go_enter Tryd.func102, Tryd.ntmps102
      go_wp2
      go_ret
      exact ⟨rfl, rfl⟩
    · have f2 : decide ((n : Int) ≤ 122) = false := zl (by omega)
      have f3 : decide (65 ≤ (n : Int)) = true := zk (by omega)
      have f4 : decide ((n : Int) ≤ 90) = false := zl (by omega)
      have hr : isLetterN n = false := by unfold isLetterN; rw [zl h2, zl (by omega : ¬ n ≤ 90)]; simp
      rw [hr]
      clear hb hr h1 h2
      go_enter Tryd.func102, Tryd.ntmps102
      go_wp2
      go_ret
      exact ⟨rfl, rfl⟩
  · have f1 : decide (97 ≤ (n : Int)) = false := zl (by omega)
    by_cases h3 : 65 ≤ n
    · have f3 : decide (65 ≤ (n : Int)) = true := zk (by omega)
      have hr : isLetterN n = decide ((n : Int) ≤ 90) := by
        unfold isLetterN
        rw [zl h1, zk h3, Bool.false_and, Bool.false_or, Bool.true_and]
        by_cases h : n ≤ 90
        · rw [zk h, zk (by omega)]
        · rw [zl h, zl (by omega)]
      rw [hr]
      clear hb hr h1 h3
      go_enter Tryd.func102, Tryd.ntmps102
      go_wp2
      go_ret
      exact ⟨rfl, rfl⟩
    · have f3 : decide (65 ≤ (n : Int)) = false := zl (by omega)
      have hr : isLetterN n = false := by unfold isLetterN; rw [zl h1, zl h3]; simp
      rw [hr]
      clear hb hr h1 h3
      go_enter Tryd.func102, Tryd.ntmps102
      go_wp2
      go_ret
      exact ⟨rfl, rfl⟩
def hexU (n : Nat) : UInt8 := ([48, 49, 50, 51, 52, 53, 54, 55, 56, 57, 65, 66, 67, 68, 69, 70] : List UInt8).getD n 0
set_option maxRecDepth 100000 in
theorem hexSl (q : Nat) (hq : q < 16) (w : World) : Sem.run Tryd.prog (Instr.slice 9 (.string ⟨#[48, 49, 50, 51, 52, 53, 54, 55, 56, 57, 65, 66, 67, 68, 69, 70]⟩) (some (.int .u8 (q : Int))) (some (.int .u8 ((q : Int) + 1))) none) w = .ok (.string ⟨#[hexU q]⟩) w := by
  have h := run_slice_string (P := Tryd.prog) w 9 ⟨#[48, 49, 50, 51, 52, 53, 54, 55, 56, 57, 65, 66, 67, 68, 69, 70]⟩ .u8 .u8 (q : Int) ((q : Int) + 1) Tryd.underlying9 (by omega) (by omega) (by show _ ≤ (16 : Int); omega)
  rw [h, show ((q : Int) + 1).toNat = q + 1 by omega, Int.toNat_natCast]
  congr 2
  have hall : ∀ i : Fin 16, (⟨#[48, 49, 50, 51, 52, 53, 54, 55, 56, 57, 65, 66, 67, 68, 69, 70]⟩ : ByteArray).extract i.1 (i.1 + 1) = ⟨#[hexU i.1]⟩ := by decide +kernel
  exact hall ⟨q, hq⟩
theorem three_cells (x y : UInt8) : Lib.strCells (⟨#[37]⟩ ++ ⟨#[x]⟩ ++ ⟨#[y]⟩) = Lib.byteCells [37, x, y] := by
  simp [Lib.strCells, Lib.byteCells, ByteArray.data_append]
theorem three_size (x y : UInt8) : ((⟨#[37]⟩ ++ ⟨#[x]⟩ ++ ⟨#[y]⟩ : ByteArray)).size = 3 := by
  rw [ByteArray.size_append, ByteArray.size_append]
  rfl
def plainC (c : UInt8) : Bool := isLetterN c.toNat || (decide (48 ≤ c.toNat) && decide (c.toNat ≤ 57)) || decide (0 ≤ Lib.indexByte [46, 45, 95, 126] c)
def escC (c : UInt8) : List UInt8 := if plainC c = true then [c] else [37, hexU (c.toNat / 16), hexU (c.toNat % 16)]
def escS (a : ByteArray) : ByteArray := ⟨(a.data.toList.flatMap escC).toArray⟩
def purl_escaped.f (a0 : ByteArray) : Option ByteArray := if a0.size ≤ 46912496118442 then some (escS a0) else none
set_option maxHeartbeats 3200000 in
set_option maxRecDepth 100000 in
theorem purl_escaped.calls (a0 : ByteArray) (r : ByteArray) (w : World) (h : purl_escaped.f a0 = some r) :
    Calls Tryd.prog 53 #[.string a0] w fun e w' => e = .returned (.string r) ∧ Below w.heap.size w w' := by
  unfold purl_escaped.f at h
  split at h
  case isFalse => cases h
  rename_i hsz
  have HSZ := Aq.mk hsz
  clear hsz
  obtain rfl := yg h
  clear h
  go_enter Tryd.func53, Tryd.ntmps53
  go_wp2
  go_loopg [4, 5, 8] a0.size (fun n _ _ i wr => ∃ (k : Nat) (acc : List UInt8), i = .int .i64 k ∧ Aq (k + n = a0.size) ∧ Aq (Lib.IsBuilder 117 5 w.heap.size w.heap.size (Lib.byteCells acc) wr) ∧ Aq (Below w.heap.size w wr) ∧ Aq (acc ++ (a0.data.toList.drop k).flatMap escC = a0.data.toList.flatMap escC) ∧ Aq (acc.length ≤ 3 * k))
  case atStart => exact ⟨0, [], rfl, ⟨by omega⟩, ⟨Lib.fresh_isBuilder 117 5 w⟩, ⟨zd (Below.refl _ _) _⟩, ⟨rfl⟩, ⟨by simp⟩⟩
  case round =>
    obtain ⟨k, acc, rfl, hk, hI, hb, ha, hl⟩ := hrel
    by_cases hlt : k < a0.size
    · have h1 : (k : Int) < (a0.size : Int) := by omega
      have hw : wrap64 ((k : Int) + 1) = ((k + 1 : Nat) : Int) := by have := HSZ.out; unfold wrap64; omega
      have HW := Aq.mk hw
      clear hw
      have hdr : a0.data.toList.drop k = a0[k]'hlt :: a0.data.toList.drop (k + 1) := List.drop_eq_getElem_cons (by simpa using hlt)
      have HDR := Aq.mk hdr
      clear hdr
      have hBw := hb.out.size
      have hlen : (Lib.byteCells acc).length + 3 ≤ 140737488355328 := by rw [Lib.byteCells_length]; have := hl.out; have := HSZ.out; omega
      cases hL : isLetterN (a0[k]'hlt).toNat
      · have HL := Aq.mk hL
        have hpl : plainC (a0[k]'hlt) = ((decide (48 ≤ (a0[k]'hlt).toNat) && decide ((a0[k]'hlt).toNat ≤ 57)) || decide (0 ≤ Lib.indexByte [46, 45, 95, 126] (a0[k]'hlt))) := by unfold plainC; rw [hL, Bool.false_or]
        clear hL
        by_cases h48 : 48 ≤ (a0[k]'hlt).toNat ∧ (a0[k]'hlt).toNat ≤ 57
        · have e1 : decide (48 ≤ ((a0[k]'hlt).toNat : Int)) = true := zk (by omega)
          have e2 : decide (((a0[k]'hlt).toNat : Int) ≤ 57) = true := zk (by omega)
          have hP : plainC (a0[k]'hlt) = true := by rw [hpl, zk h48.1, zk h48.2]; rfl
          have HP := Aq.mk hP
          clear hP hpl h48
          go_wp2_with (first | (go_at_call 102; refine (isLetter_c _ _).mono ?_; rintro e w2 ⟨rfl, rfl⟩; rw [HL.out]) | (go_at_call 103; refine (Tryd.bWriteByte w.heap.size w.heap.size _ _ _ hI.out (by omega) hBw).mono ?_; rintro e w2 ⟨rfl, hI2, hb2⟩))
          rw [HW.out]
          go_roundg (gk - 1)
          case measure => have := hk.out; omega
          case rel =>
            refine ⟨k + 1, acc ++ [a0[k]'hlt], rfl, ⟨by have := hk.out; omega⟩, ⟨Or.inr (by rw [show Lib.byteCells (acc ++ [a0[k]'hlt]) = Lib.byteCells acc ++ [Value.int .u8 (a0[k]'hlt).toNat] from by simp [Lib.byteCells]]; exact hI2)⟩, ⟨hb.out.trans hb2⟩, ⟨?_⟩, ⟨by have := hl.out; simp; omega⟩⟩
            have h1 := ha.out
            rw [HDR.out, List.flatMap_cons, show escC (a0[k]'hlt) = [a0[k]'hlt] from if_pos HP.out] at h1
            rw [← h1, List.append_assoc]
        · have hpl2 : plainC (a0[k]'hlt) = decide (0 ≤ Lib.indexByte [46, 45, 95, 126] (a0[k]'hlt)) := by
            rw [hpl, show (decide (48 ≤ (a0[k]'hlt).toNat) && decide ((a0[k]'hlt).toNat ≤ 57)) = false from by rw [← Bool.decide_and]; exact zl h48, Bool.false_or]
          have hways : (decide (48 ≤ ((a0[k]'hlt).toNat : Int)) = false) ∨ (decide (48 ≤ ((a0[k]'hlt).toNat : Int)) = true ∧ decide (((a0[k]'hlt).toNat : Int) ≤ 57) = false) := by
            rcases Nat.lt_or_ge (a0[k]'hlt).toNat 48 with h | h
            · exact .inl (zl (by omega))
            · exact .inr ⟨zk (by omega), zl (by omega)⟩
          have hix : Lib.indexByte [46, 45, 95, 126] (((a0[k]'hlt).toNat : Int).toNat.toUInt8) = Lib.indexByte [46, 45, 95, 126] (a0[k]'hlt) := by simp
          obtain ⟨ix, hx⟩ : ∃ ix, Lib.indexByte [46, 45, 95, 126] (a0[k]'hlt) = ix := ⟨_, rfl⟩
          rw [hx] at hix hpl2
          have HI := Aq.mk hix
          clear hix hx hpl h48
          by_cases h0 : 0 ≤ ix
          · have hP : plainC (a0[k]'hlt) = true := by rw [hpl2]; exact zk h0
            have e3 : decide (ix ≥ 0) = true := zk h0
            have e4 : decide (0 ≤ ix) = true := zk h0
            have HP := Aq.mk hP
            clear hP hpl2 h0
            rcases hways with e1 | ⟨e1, e2⟩
            all_goals
              go_wp2_with (first | (go_at_call 102; refine (isLetter_c _ _).mono ?_; rintro e w2 ⟨rfl, rfl⟩; rw [HL.out]) | (go_at_call 69; refine (Tryd.strings_IndexByte _ _ _).mono ?_; rintro e w2 ⟨rfl, rfl⟩; rw [HI.out]) | (go_at_call 103; refine (Tryd.bWriteByte w.heap.size w.heap.size _ _ _ hI.out (by omega) hBw).mono ?_; rintro e w2 ⟨rfl, hI2, hb2⟩))
              rw [HW.out]
              go_roundg (gk - 1)
              case measure => have := hk.out; omega
              case rel =>
                refine ⟨k + 1, acc ++ [a0[k]'hlt], rfl, ⟨by have := hk.out; omega⟩, ⟨Or.inr (by rw [show Lib.byteCells (acc ++ [a0[k]'hlt]) = Lib.byteCells acc ++ [Value.int .u8 (a0[k]'hlt).toNat] from by simp [Lib.byteCells]]; exact hI2)⟩, ⟨hb.out.trans hb2⟩, ⟨?_⟩, ⟨by have := hl.out; simp; omega⟩⟩
                have h1 := ha.out
                rw [HDR.out, List.flatMap_cons, show escC (a0[k]'hlt) = [a0[k]'hlt] from if_pos HP.out] at h1
                rw [← h1, List.append_assoc]
          · have hP : plainC (a0[k]'hlt) = false := by rw [hpl2]; exact zl h0
            have e3 : decide (ix ≥ 0) = false := zl h0
            have e4 : decide (0 ≤ ix) = false := zl h0
            have HP := Aq.mk hP
            clear hP hpl2 h0
            rcases hways with e1 | ⟨e1, e2⟩
            all_goals
              go_upto_region 8 with (first | (go_at_call 102; refine (isLetter_c _ _).mono ?_; rintro e w2 ⟨rfl, rfl⟩; rw [HL.out]) | (go_at_call 69; refine (Tryd.strings_IndexByte _ _ _).mono ?_; rintro e w2 ⟨rfl, rfl⟩; rw [HI.out]))
              have hn : (a0[k]'hlt).toNat < 256 := (a0[k]'hlt).toNat_lt
              generalize hnn : (a0[k]'hlt).toNat = n at hn ⊢
              have HNN := Aq.mk hnn
              clear hnn HI HL e1
              obtain ⟨Q, R, hQ0, hQ1, hR0, hR1, hnq⟩ : ∃ Q R : Nat, 0 ≤ (Q : Int) ∧ Q < 16 ∧ 0 ≤ (R : Int) ∧ R < 16 ∧ n = 16 * Q + R := ⟨n / 16, n % 16, by omega, by omega, by omega, by omega, by omega⟩
              have ww1 : IntKind.u8.wrap ((n : Int) / 16) = (Q : Int) := by rw [IntKind.wrap_u8]; omega
              have ww2 : IntKind.u8.wrap ((Q : Int) + 1) = ((Q + 1 : Nat) : Int) := by rw [IntKind.wrap_u8]; omega
              have ww3 : ((n : Int)).tmod 16 = (R : Int) := by rw [Int.tmod_eq_emod_of_nonneg (by omega)]; omega
              have ww4 : IntKind.u8.wrap ((R : Int) + 1) = ((R + 1 : Nat) : Int) := by rw [IntKind.wrap_u8]; omega
              have z1 := hexSl Q hQ1
              have z2 := hexSl R hR1
              have HNQ := Aq.mk (And.intro hnq (And.intro hQ1 hR1))
              clear hnq
              go_still_tail 14, (by kernel_rfl)
              change wpList _ _ _ _ _ w2.drew
              have hI3 : Lib.IsBuilder 117 5 w.heap.size w.heap.size (Lib.byteCells acc) w2.drew := hI.out
              have hb3 : Below w.heap.size w w2.drew := ⟨hb.out.os, hb.out.tape, hb.out.output, hb.out.size, hb.out.block⟩
              have HI3 := Aq.mk hI3
              have HB3 := Aq.mk hb3
              clear hI3 hb3
              generalize w2.drew = w3 at HI3 HB3 ⊢
              go_wp2_with (go_at_call 88; refine (Tryd.bWriteString w.heap.size w.heap.size _ _ _ HI3.out (by rw [three_size]; exact hlen) HB3.out.size).mono ?_; rintro e w4 ⟨rfl, hI2, hb2⟩)
              rw [HW.out]
              go_roundg (gk - 1)
              case measure => have := hk.out; omega
              case rel =>
                refine ⟨k + 1, acc ++ [37, hexU Q, hexU R], rfl, ⟨by have := hk.out; omega⟩, ⟨Or.inr (by rw [show Lib.byteCells (acc ++ [37, hexU Q, hexU R]) = Lib.byteCells acc ++ Lib.strCells (⟨#[37]⟩ ++ ⟨#[hexU Q]⟩ ++ ⟨#[hexU R]⟩) from by rw [three_cells]; simp [Lib.byteCells]]; exact hI2)⟩, ⟨HB3.out.trans hb2⟩, ⟨?_⟩, ⟨by have := hl.out; simp; omega⟩⟩
                have h1 := ha.out
                have hq := HNQ.out
                have hc : escC (a0[k]'hlt) = [37, hexU Q, hexU R] := by
                  unfold escC
                  rw [if_neg (by rw [HP.out]; decide), HNN.out, show n / 16 = Q by omega, show n % 16 = R by omega]
                rw [HDR.out, List.flatMap_cons, hc] at h1
                rw [← h1, List.append_assoc]
      · have HL := Aq.mk hL
        have hP : plainC (a0[k]'hlt) = true := by unfold plainC; rw [hL]; rfl
        have HP := Aq.mk hP
        clear hL hP
        go_wp2_with (first | (go_at_call 102; refine (isLetter_c _ _).mono ?_; rintro e w2 ⟨rfl, rfl⟩; rw [HL.out]) | (go_at_call 103; refine (Tryd.bWriteByte w.heap.size w.heap.size _ _ _ hI.out (by omega) hBw).mono ?_; rintro e w2 ⟨rfl, hI2, hb2⟩))
        rw [HW.out]
        go_roundg (gk - 1)
        case measure => have := hk.out; omega
        case rel =>
          refine ⟨k + 1, acc ++ [a0[k]'hlt], rfl, ⟨by have := hk.out; omega⟩, ⟨Or.inr (by rw [show Lib.byteCells (acc ++ [a0[k]'hlt]) = Lib.byteCells acc ++ [Value.int .u8 (a0[k]'hlt).toNat] from by simp [Lib.byteCells]]; exact hI2)⟩, ⟨hb.out.trans hb2⟩, ⟨?_⟩, ⟨by have := hl.out; simp; omega⟩⟩
          have h1 := ha.out
          rw [HDR.out, List.flatMap_cons, show escC (a0[k]'hlt) = [a0[k]'hlt] from if_pos HP.out] at h1
          rw [← h1, List.append_assoc]
    · have h1 : ¬ (k : Int) < (a0.size : Int) := by omega
      have he : acc = a0.data.toList.flatMap escC := by
        have h0 := ha.out
        rw [List.drop_of_length_le (by have h3 : a0.data.toList.length = a0.size := by simp
                                       omega)] at h0
        rw [← h0]
        simp
      have HE := Aq.mk he
      clear he
      have hBw := hb.out.size
      go_wp2_with (first | (go_at_call 89; refine (Tryd.bString w.heap.size w.heap.size _ _ hI.out hBw).mono ?_; rintro e w2 ⟨rfl, hb2⟩))
      go_ret
      exact ⟨by rw [HE.out]; rfl, hb.out.trans hb2⟩
end Go.Proofs.YtmnfjbmhlabdaaaDoor.Pr
