-- Written by a program of the session (wip/pr.py) out of the translation; Lean checks it.
import Derived.Test.YtmnfjbmhlabdaaaDoorDXa
import Derived.Test.YtmnfjbmhlabdaaaDoorDPrx0
import Derived.Test.YtmnfjbmhlabdaaaDoorDEh
namespace Go.Proofs.YtmnfjbmhlabdaaaDoor.Pr
open Go.RowKit Go.Proofs.YtmnfjbmhlabdaaaDoorW.PrintWords Go.Proofs.YtmnfjbmhlabdaaaDoorW.PrintLast Go.Proofs.YtmnfjbmhlabdaaaDoorW.PrintMore
attribute [local go_sem] max2_int min2_int max_two min_two max_three min_three max_four min_four leq_not
set_option linter.unusedVariables false
set_option linter.unusedSimpArgs false
def r2_isQualifier.l0 : Nat → ByteArray → Int → Option (Bool)
 | 0, _, _ => none
 | k + 1, x0, x3 => if x3 < (x0.size : Int) then (if 0 ≤ x3 then (if (bt x0 x3) ≥ 97 then (if ((bt x0 x3) ≤ 122) then (r2_isQualifier.l0 k x0 (wrap64 (x3 + 1))) else (if x3 = 0 then (some false) else (if (bt x0 x3) ≥ 48 then (if (bt x0 x3) ≤ 57 then (r2_isQualifier.l0 k x0 (wrap64 (x3 + 1))) else (if (bt x0 x3) = 46 then (r2_isQualifier.l0 k x0 (wrap64 (x3 + 1))) else (if (bt x0 x3) = 45 then (r2_isQualifier.l0 k x0 (wrap64 (x3 + 1))) else (if ((bt x0 x3) = 95) then (r2_isQualifier.l0 k x0 (wrap64 (x3 + 1))) else (some false))))) else (if (bt x0 x3) = 46 then (r2_isQualifier.l0 k x0 (wrap64 (x3 + 1))) else (if (bt x0 x3) = 45 then (r2_isQualifier.l0 k x0 (wrap64 (x3 + 1))) else (if ((bt x0 x3) = 95) then (r2_isQualifier.l0 k x0 (wrap64 (x3 + 1))) else (some false))))))) else (if x3 = 0 then (some false) else (if (bt x0 x3) ≥ 48 then (if (bt x0 x3) ≤ 57 then (r2_isQualifier.l0 k x0 (wrap64 (x3 + 1))) else (if (bt x0 x3) = 46 then (r2_isQualifier.l0 k x0 (wrap64 (x3 + 1))) else (if (bt x0 x3) = 45 then (r2_isQualifier.l0 k x0 (wrap64 (x3 + 1))) else (if ((bt x0 x3) = 95) then (r2_isQualifier.l0 k x0 (wrap64 (x3 + 1))) else (some false))))) else (if (bt x0 x3) = 46 then (r2_isQualifier.l0 k x0 (wrap64 (x3 + 1))) else (if (bt x0 x3) = 45 then (r2_isQualifier.l0 k x0 (wrap64 (x3 + 1))) else (if ((bt x0 x3) = 95) then (r2_isQualifier.l0 k x0 (wrap64 (x3 + 1))) else (some false))))))) else (none)) else (some (x0.toList != ([] : List UInt8)))
def r2_isQualifier.f (k : Nat) (a0 : ByteArray) : Option (Bool) := r2_isQualifier.l0 k a0 0
set_option maxHeartbeats 8000000 in
set_option maxRecDepth 100000 in
theorem r2_isQualifier.calls (k : Nat) (a0 : ByteArray) (r : Bool) (w : World) (h : r2_isQualifier.f k a0 = some r) :
  Calls Tryd.prog 64 #[.string a0] w fun e w' => e = .returned (.bool r) ∧ Drawn0 w w' := by
 have H : (r2_isQualifier.l0 k a0 0) = some r := h
 clear h
 have H' := Aq.mk H
 clear H
 go_enter Tryd.func64, Tryd.ntmps64
 go_wp2
 go_loopg [3] k (fun kq v3 w' => ∃ (x3_1 : Int), v3 = .int .i64 x3_1 ∧ Aq (r2_isQualifier.l0 kq a0 x3_1 = some r) ∧ Aq (kq ≤ k) ∧ Drawn0 w w')
 case atStart => exact ⟨(0), (by first | rfl | (simp; done) | (simp [*]; done)), H', ⟨Nat.le_refl _⟩, by repeat (first | exact zN _ | apply zO)⟩
 case round =>
  clear H'
  obtain ⟨x3_1, rfl, HA, HK1, ⟨m1, rfl⟩⟩ := hrel
  cases gk with
  | zero => exact absurd HA.out (by simp [r2_isQualifier.l0])
  | succ k1 =>
   have H := HA.out
   clear HA
   simp only [r2_isQualifier.l0] at H
   by_cases c2 : x3_1 < (a0.size : Int)
   ·rw [if_pos c2] at H
    have c2b0 : decide (x3_1 < (a0.size : Int)) = true := zk c2
    clear c2
    by_cases c3 : 0 ≤ x3_1
    ·rw [if_pos c3] at H
     have c3b0 : decide (0 ≤ x3_1) = true := zk c3
     clear c3
     by_cases c5 : (bt a0 x3_1) ≥ 97
     ·rw [if_pos c5] at H
      have c5b0 : decide (97 ≤ (bt a0 x3_1)) = true := zk c5
      clear c5
      by_cases c6 : ((bt a0 x3_1) ≤ 122)
      ·rw [if_pos c6] at H
       have c6b0 : decide ((bt a0 x3_1) ≤ 122) = true := zk c6
       clear c6
       have H' := Aq.mk H
       clear H
       have p4 : 0 ≤ (x3_1 : Int) := zj (by assumption)
       have q4 : x3_1 < (a0.size : Int) := zj (by assumption)
       have hx4 := bt_at a0 x3_1
       replace p4 := eq_true p4
       replace q4 := eq_true q4
       go_wp2
       go_roundg k1
       case measure => have := HK1.out; omega
       case rel => exact ⟨(wrap64 (x3_1 + 1)), (by first | rfl | (simp; done) | (simp [*]; done)), H', ⟨by have := HK1.out; omega⟩, by repeat (first | exact zN _ | apply zO)⟩
      ·rw [if_neg c6] at H
       have c6b0 : decide ((bt a0 x3_1) ≤ 122) = false := zl c6
       clear c6
       by_cases c7 : x3_1 = 0
       ·rw [if_pos c7] at H
        have c7b0 : (x3_1 == 0) = true := yc.mpr c7
        have c7b1 : (x3_1 != 0) = false := yf.mpr c7
        clear c7
        obtain rfl := yg H
        simp only [zH, zI] at H
        obtain ⟨rfl⟩ := H
        have p4 : 0 ≤ (x3_1 : Int) := zj (by assumption)
        have q4 : x3_1 < (a0.size : Int) := zj (by assumption)
        have hx4 := bt_at a0 x3_1
        replace p4 := eq_true p4
        replace q4 := eq_true q4
        go_wp2
        go_ret
        exact ⟨by first | rfl | (simp; done) | (simp; cases a0.toList <;> rfl) | (simp [*]; done), by repeat (first | exact zN _ | apply zO)⟩
       ·rw [if_neg c7] at H
        have c7b0 : (x3_1 == 0) = false := ye.mpr c7
        have c7b1 : (x3_1 != 0) = true := yd.mpr c7
        by_cases c8 : (bt a0 x3_1) ≥ 48
        ·rw [if_pos c8] at H
         have c8b0 : decide (48 ≤ (bt a0 x3_1)) = true := zk c8
         clear c8
         by_cases c9 : (bt a0 x3_1) ≤ 57
         ·rw [if_pos c9] at H
          have c9b0 : decide ((bt a0 x3_1) ≤ 57) = true := zk c9
          clear c9
          have H' := Aq.mk H
          clear H
          have p4 : 0 ≤ (x3_1 : Int) := zj (by assumption)
          have q4 : x3_1 < (a0.size : Int) := zj (by assumption)
          have hx4 := bt_at a0 x3_1
          replace p4 := eq_true p4
          replace q4 := eq_true q4
          go_wp2
          go_roundg k1
          case measure => have := HK1.out; omega
          case rel => exact ⟨(wrap64 (x3_1 + 1)), (by first | rfl | (simp; done) | (simp [*]; done)), H', ⟨by have := HK1.out; omega⟩, by repeat (first | exact zN _ | apply zO)⟩
         ·rw [if_neg c9] at H
          have c9b0 : decide ((bt a0 x3_1) ≤ 57) = false := zl c9
          clear c9
          by_cases c10 : (bt a0 x3_1) = 46
          ·rw [if_pos c10] at H
           have c10b0 : ((bt a0 x3_1) == 46) = true := yc.mpr c10
           have c10b1 : ((bt a0 x3_1) != 46) = false := yf.mpr c10
           clear c10
           have H' := Aq.mk H
           clear H
           have p4 : 0 ≤ (x3_1 : Int) := zj (by assumption)
           have q4 : x3_1 < (a0.size : Int) := zj (by assumption)
           have hx4 := bt_at a0 x3_1
           replace p4 := eq_true p4
           replace q4 := eq_true q4
           go_wp2
           go_roundg k1
           case measure => have := HK1.out; omega
           case rel => exact ⟨(wrap64 (x3_1 + 1)), (by first | rfl | (simp; done) | (simp [*]; done)), H', ⟨by have := HK1.out; omega⟩, by repeat (first | exact zN _ | apply zO)⟩
          ·rw [if_neg c10] at H
           have c10b0 : ((bt a0 x3_1) == 46) = false := ye.mpr c10
           have c10b1 : ((bt a0 x3_1) != 46) = true := yd.mpr c10
           by_cases c11 : (bt a0 x3_1) = 45
           ·rw [if_pos c11] at H
            have c11b0 : ((bt a0 x3_1) == 45) = true := yc.mpr c11
            have c11b1 : ((bt a0 x3_1) != 45) = false := yf.mpr c11
            clear c11
            have H' := Aq.mk H
            clear H
            have p4 : 0 ≤ (x3_1 : Int) := zj (by assumption)
            have q4 : x3_1 < (a0.size : Int) := zj (by assumption)
            have hx4 := bt_at a0 x3_1
            replace p4 := eq_true p4
            replace q4 := eq_true q4
            go_wp2
            go_roundg k1
            case measure => have := HK1.out; omega
            case rel => exact ⟨(wrap64 (x3_1 + 1)), (by first | rfl | (simp; done) | (simp [*]; done)), H', ⟨by have := HK1.out; omega⟩, by repeat (first | exact zN _ | apply zO)⟩
           ·rw [if_neg c11] at H
            have c11b0 : ((bt a0 x3_1) == 45) = false := ye.mpr c11
            have c11b1 : ((bt a0 x3_1) != 45) = true := yd.mpr c11
            by_cases c12 : ((bt a0 x3_1) = 95)
            ·rw [if_pos c12] at H
             have c12b0 : ((bt a0 x3_1) == 95) = true := yc.mpr c12
             have c12b1 : ((bt a0 x3_1) != 95) = false := yf.mpr c12
             clear c12
             have H' := Aq.mk H
             clear H
             have p4 : 0 ≤ (x3_1 : Int) := zj (by assumption)
             have q4 : x3_1 < (a0.size : Int) := zj (by assumption)
             have hx4 := bt_at a0 x3_1
             replace p4 := eq_true p4
             replace q4 := eq_true q4
             go_wp2
             go_roundg k1
             case measure => have := HK1.out; omega
             case rel => exact ⟨(wrap64 (x3_1 + 1)), (by first | rfl | (simp; done) | (simp [*]; done)), H', ⟨by have := HK1.out; omega⟩, by repeat (first | exact zN _ | apply zO)⟩
            ·rw [if_neg c12] at H
             have c12b0 : ((bt a0 x3_1) == 95) = false := ye.mpr c12
             have c12b1 : ((bt a0 x3_1) != 95) = true := yd.mpr c12
             obtain rfl := yg H
             simp only [zH, zI] at H
             obtain ⟨rfl⟩ := H
             have p4 : 0 ≤ (x3_1 : Int) := zj (by assumption)
             have q4 : x3_1 < (a0.size : Int) := zj (by assumption)
             have hx4 := bt_at a0 x3_1
             replace p4 := eq_true p4
             replace q4 := eq_true q4
             go_wp2
             go_ret
             exact ⟨by first | rfl | (simp; done) | (simp; cases a0.toList <;> rfl) | (simp [*]; done), by repeat (first | exact zN _ | apply zO)⟩
        ·rw [if_neg c8] at H
         have c8b0 : decide (48 ≤ (bt a0 x3_1)) = false := zl c8
         clear c8
         by_cases c13 : (bt a0 x3_1) = 46
         ·rw [if_pos c13] at H
          have c13b0 : ((bt a0 x3_1) == 46) = true := yc.mpr c13
          have c13b1 : ((bt a0 x3_1) != 46) = false := yf.mpr c13
          clear c13
          have H' := Aq.mk H
          clear H
          have p4 : 0 ≤ (x3_1 : Int) := zj (by assumption)
          have q4 : x3_1 < (a0.size : Int) := zj (by assumption)
          have hx4 := bt_at a0 x3_1
          replace p4 := eq_true p4
          replace q4 := eq_true q4
          go_wp2
          go_roundg k1
          case measure => have := HK1.out; omega
          case rel => exact ⟨(wrap64 (x3_1 + 1)), (by first | rfl | (simp; done) | (simp [*]; done)), H', ⟨by have := HK1.out; omega⟩, by repeat (first | exact zN _ | apply zO)⟩
         ·rw [if_neg c13] at H
          have c13b0 : ((bt a0 x3_1) == 46) = false := ye.mpr c13
          have c13b1 : ((bt a0 x3_1) != 46) = true := yd.mpr c13
          by_cases c14 : (bt a0 x3_1) = 45
          ·rw [if_pos c14] at H
           have c14b0 : ((bt a0 x3_1) == 45) = true := yc.mpr c14
           have c14b1 : ((bt a0 x3_1) != 45) = false := yf.mpr c14
           clear c14
           have H' := Aq.mk H
           clear H
           have p4 : 0 ≤ (x3_1 : Int) := zj (by assumption)
           have q4 : x3_1 < (a0.size : Int) := zj (by assumption)
           have hx4 := bt_at a0 x3_1
           replace p4 := eq_true p4
           replace q4 := eq_true q4
           go_wp2
           go_roundg k1
           case measure => have := HK1.out; omega
           case rel => exact ⟨(wrap64 (x3_1 + 1)), (by first | rfl | (simp; done) | (simp [*]; done)), H', ⟨by have := HK1.out; omega⟩, by repeat (first | exact zN _ | apply zO)⟩
          ·rw [if_neg c14] at H
           have c14b0 : ((bt a0 x3_1) == 45) = false := ye.mpr c14
           have c14b1 : ((bt a0 x3_1) != 45) = true := yd.mpr c14
           by_cases c15 : ((bt a0 x3_1) = 95)
           ·rw [if_pos c15] at H
            have c15b0 : ((bt a0 x3_1) == 95) = true := yc.mpr c15
            have c15b1 : ((bt a0 x3_1) != 95) = false := yf.mpr c15
            clear c15
            have H' := Aq.mk H
            clear H
            have p4 : 0 ≤ (x3_1 : Int) := zj (by assumption)
            have q4 : x3_1 < (a0.size : Int) := zj (by assumption)
            have hx4 := bt_at a0 x3_1
            replace p4 := eq_true p4
            replace q4 := eq_true q4
            go_wp2
            go_roundg k1
            case measure => have := HK1.out; omega
            case rel => exact ⟨(wrap64 (x3_1 + 1)), (by first | rfl | (simp; done) | (simp [*]; done)), H', ⟨by have := HK1.out; omega⟩, by repeat (first | exact zN _ | apply zO)⟩
           ·rw [if_neg c15] at H
            have c15b0 : ((bt a0 x3_1) == 95) = false := ye.mpr c15
            have c15b1 : ((bt a0 x3_1) != 95) = true := yd.mpr c15
            obtain rfl := yg H
            simp only [zH, zI] at H
            obtain ⟨rfl⟩ := H
            have p4 : 0 ≤ (x3_1 : Int) := zj (by assumption)
            have q4 : x3_1 < (a0.size : Int) := zj (by assumption)
            have hx4 := bt_at a0 x3_1
            replace p4 := eq_true p4
            replace q4 := eq_true q4
            go_wp2
            go_ret
            exact ⟨by first | rfl | (simp; done) | (simp; cases a0.toList <;> rfl) | (simp [*]; done), by repeat (first | exact zN _ | apply zO)⟩
     ·rw [if_neg c5] at H
      have c5b0 : decide (97 ≤ (bt a0 x3_1)) = false := zl c5
      clear c5
      by_cases c16 : x3_1 = 0
      ·rw [if_pos c16] at H
       have c16b0 : (x3_1 == 0) = true := yc.mpr c16
       have c16b1 : (x3_1 != 0) = false := yf.mpr c16
       clear c16
       obtain rfl := yg H
       simp only [zH, zI] at H
       obtain ⟨rfl⟩ := H
       have p4 : 0 ≤ (x3_1 : Int) := zj (by assumption)
       have q4 : x3_1 < (a0.size : Int) := zj (by assumption)
       have hx4 := bt_at a0 x3_1
       replace p4 := eq_true p4
       replace q4 := eq_true q4
       go_wp2
       go_ret
       exact ⟨by first | rfl | (simp; done) | (simp; cases a0.toList <;> rfl) | (simp [*]; done), by repeat (first | exact zN _ | apply zO)⟩
      ·rw [if_neg c16] at H
       have c16b0 : (x3_1 == 0) = false := ye.mpr c16
       have c16b1 : (x3_1 != 0) = true := yd.mpr c16
       by_cases c17 : (bt a0 x3_1) ≥ 48
       ·rw [if_pos c17] at H
        have c17b0 : decide (48 ≤ (bt a0 x3_1)) = true := zk c17
        clear c17
        by_cases c18 : (bt a0 x3_1) ≤ 57
        ·rw [if_pos c18] at H
         have c18b0 : decide ((bt a0 x3_1) ≤ 57) = true := zk c18
         clear c18
         have H' := Aq.mk H
         clear H
         have p4 : 0 ≤ (x3_1 : Int) := zj (by assumption)
         have q4 : x3_1 < (a0.size : Int) := zj (by assumption)
         have hx4 := bt_at a0 x3_1
         replace p4 := eq_true p4
         replace q4 := eq_true q4
         go_wp2
         go_roundg k1
         case measure => have := HK1.out; omega
         case rel => exact ⟨(wrap64 (x3_1 + 1)), (by first | rfl | (simp; done) | (simp [*]; done)), H', ⟨by have := HK1.out; omega⟩, by repeat (first | exact zN _ | apply zO)⟩
        ·rw [if_neg c18] at H
         have c18b0 : decide ((bt a0 x3_1) ≤ 57) = false := zl c18
         clear c18
         by_cases c19 : (bt a0 x3_1) = 46
         ·rw [if_pos c19] at H
          have c19b0 : ((bt a0 x3_1) == 46) = true := yc.mpr c19
          have c19b1 : ((bt a0 x3_1) != 46) = false := yf.mpr c19
          clear c19
          have H' := Aq.mk H
          clear H
          have p4 : 0 ≤ (x3_1 : Int) := zj (by assumption)
          have q4 : x3_1 < (a0.size : Int) := zj (by assumption)
          have hx4 := bt_at a0 x3_1
          replace p4 := eq_true p4
          replace q4 := eq_true q4
          go_wp2
          go_roundg k1
          case measure => have := HK1.out; omega
          case rel => exact ⟨(wrap64 (x3_1 + 1)), (by first | rfl | (simp; done) | (simp [*]; done)), H', ⟨by have := HK1.out; omega⟩, by repeat (first | exact zN _ | apply zO)⟩
         ·rw [if_neg c19] at H
          have c19b0 : ((bt a0 x3_1) == 46) = false := ye.mpr c19
          have c19b1 : ((bt a0 x3_1) != 46) = true := yd.mpr c19
          by_cases c20 : (bt a0 x3_1) = 45
          ·rw [if_pos c20] at H
           have c20b0 : ((bt a0 x3_1) == 45) = true := yc.mpr c20
           have c20b1 : ((bt a0 x3_1) != 45) = false := yf.mpr c20
           clear c20
           have H' := Aq.mk H
           clear H
           have p4 : 0 ≤ (x3_1 : Int) := zj (by assumption)
           have q4 : x3_1 < (a0.size : Int) := zj (by assumption)
           have hx4 := bt_at a0 x3_1
           replace p4 := eq_true p4
           replace q4 := eq_true q4
           go_wp2
           go_roundg k1
           case measure => have := HK1.out; omega
           case rel => exact ⟨(wrap64 (x3_1 + 1)), (by first | rfl | (simp; done) | (simp [*]; done)), H', ⟨by have := HK1.out; omega⟩, by repeat (first | exact zN _ | apply zO)⟩
          ·rw [if_neg c20] at H
           have c20b0 : ((bt a0 x3_1) == 45) = false := ye.mpr c20
           have c20b1 : ((bt a0 x3_1) != 45) = true := yd.mpr c20
           by_cases c21 : ((bt a0 x3_1) = 95)
           ·rw [if_pos c21] at H
            have c21b0 : ((bt a0 x3_1) == 95) = true := yc.mpr c21
            have c21b1 : ((bt a0 x3_1) != 95) = false := yf.mpr c21
            clear c21
            have H' := Aq.mk H
            clear H
            have p4 : 0 ≤ (x3_1 : Int) := zj (by assumption)
            have q4 : x3_1 < (a0.size : Int) := zj (by assumption)
            have hx4 := bt_at a0 x3_1
            replace p4 := eq_true p4
            replace q4 := eq_true q4
            go_wp2
            go_roundg k1
            case measure => have := HK1.out; omega
            case rel => exact ⟨(wrap64 (x3_1 + 1)), (by first | rfl | (simp; done) | (simp [*]; done)), H', ⟨by have := HK1.out; omega⟩, by repeat (first | exact zN _ | apply zO)⟩
           ·rw [if_neg c21] at H
            have c21b0 : ((bt a0 x3_1) == 95) = false := ye.mpr c21
            have c21b1 : ((bt a0 x3_1) != 95) = true := yd.mpr c21
            obtain rfl := yg H
            simp only [zH, zI] at H
            obtain ⟨rfl⟩ := H
            have p4 : 0 ≤ (x3_1 : Int) := zj (by assumption)
            have q4 : x3_1 < (a0.size : Int) := zj (by assumption)
            have hx4 := bt_at a0 x3_1
            replace p4 := eq_true p4
            replace q4 := eq_true q4
            go_wp2
            go_ret
            exact ⟨by first | rfl | (simp; done) | (simp; cases a0.toList <;> rfl) | (simp [*]; done), by repeat (first | exact zN _ | apply zO)⟩
       ·rw [if_neg c17] at H
        have c17b0 : decide (48 ≤ (bt a0 x3_1)) = false := zl c17
        clear c17
        by_cases c22 : (bt a0 x3_1) = 46
        ·rw [if_pos c22] at H
         have c22b0 : ((bt a0 x3_1) == 46) = true := yc.mpr c22
         have c22b1 : ((bt a0 x3_1) != 46) = false := yf.mpr c22
         clear c22
         have H' := Aq.mk H
         clear H
         have p4 : 0 ≤ (x3_1 : Int) := zj (by assumption)
         have q4 : x3_1 < (a0.size : Int) := zj (by assumption)
         have hx4 := bt_at a0 x3_1
         replace p4 := eq_true p4
         replace q4 := eq_true q4
         go_wp2
         go_roundg k1
         case measure => have := HK1.out; omega
         case rel => exact ⟨(wrap64 (x3_1 + 1)), (by first | rfl | (simp; done) | (simp [*]; done)), H', ⟨by have := HK1.out; omega⟩, by repeat (first | exact zN _ | apply zO)⟩
        ·rw [if_neg c22] at H
         have c22b0 : ((bt a0 x3_1) == 46) = false := ye.mpr c22
         have c22b1 : ((bt a0 x3_1) != 46) = true := yd.mpr c22
         by_cases c23 : (bt a0 x3_1) = 45
         ·rw [if_pos c23] at H
          have c23b0 : ((bt a0 x3_1) == 45) = true := yc.mpr c23
          have c23b1 : ((bt a0 x3_1) != 45) = false := yf.mpr c23
          clear c23
          have H' := Aq.mk H
          clear H
          have p4 : 0 ≤ (x3_1 : Int) := zj (by assumption)
          have q4 : x3_1 < (a0.size : Int) := zj (by assumption)
          have hx4 := bt_at a0 x3_1
          replace p4 := eq_true p4
          replace q4 := eq_true q4
          go_wp2
          go_roundg k1
          case measure => have := HK1.out; omega
          case rel => exact ⟨(wrap64 (x3_1 + 1)), (by first | rfl | (simp; done) | (simp [*]; done)), H', ⟨by have := HK1.out; omega⟩, by repeat (first | exact zN _ | apply zO)⟩
         ·rw [if_neg c23] at H
          have c23b0 : ((bt a0 x3_1) == 45) = false := ye.mpr c23
          have c23b1 : ((bt a0 x3_1) != 45) = true := yd.mpr c23
          by_cases c24 : ((bt a0 x3_1) = 95)
          ·rw [if_pos c24] at H
           have c24b0 : ((bt a0 x3_1) == 95) = true := yc.mpr c24
           have c24b1 : ((bt a0 x3_1) != 95) = false := yf.mpr c24
           clear c24
           have H' := Aq.mk H
           clear H
           have p4 : 0 ≤ (x3_1 : Int) := zj (by assumption)
           have q4 : x3_1 < (a0.size : Int) := zj (by assumption)
           have hx4 := bt_at a0 x3_1
           replace p4 := eq_true p4
           replace q4 := eq_true q4
           go_wp2
           go_roundg k1
           case measure => have := HK1.out; omega
           case rel => exact ⟨(wrap64 (x3_1 + 1)), (by first | rfl | (simp; done) | (simp [*]; done)), H', ⟨by have := HK1.out; omega⟩, by repeat (first | exact zN _ | apply zO)⟩
          ·rw [if_neg c24] at H
           have c24b0 : ((bt a0 x3_1) == 95) = false := ye.mpr c24
           have c24b1 : ((bt a0 x3_1) != 95) = true := yd.mpr c24
           obtain rfl := yg H
           simp only [zH, zI] at H
           obtain ⟨rfl⟩ := H
           have p4 : 0 ≤ (x3_1 : Int) := zj (by assumption)
           have q4 : x3_1 < (a0.size : Int) := zj (by assumption)
           have hx4 := bt_at a0 x3_1
           replace p4 := eq_true p4
           replace q4 := eq_true q4
           go_wp2
           go_ret
           exact ⟨by first | rfl | (simp; done) | (simp; cases a0.toList <;> rfl) | (simp [*]; done), by repeat (first | exact zN _ | apply zO)⟩
    ·rw [if_neg c3] at H
     exact absurd H (by simp)
   ·rw [if_neg c2] at H
    have c2b0 : decide (x3_1 < (a0.size : Int)) = false := zl c2
    clear c2
    obtain rfl := yg H
    simp only [zH, zI] at H
    obtain ⟨rfl⟩ := H
    go_wp2
    go_ret
    exact ⟨by first | rfl | (simp; done) | (simp; cases a0.toList <;> rfl) | (simp [*]; done), by repeat (first | exact zN _ | apply zO)⟩
def r2_clean.l0 : Nat → ByteArray → Int → Option (Bool)
 | 0, _, _ => none
 | k + 1, x0, x3 => if x3 < (x0.size : Int) then (if 0 ≤ x3 then (if (bt x0 x3) < 32 then (some false) else (if (bt x0 x3) = 127 then (some false) else (r2_clean.l0 k x0 (wrap64 (x3 + 1))))) else (none)) else (some true)
def r2_clean.f (k : Nat) (a0 : ByteArray) : Option (Bool) := r2_clean.l0 k a0 0
set_option maxHeartbeats 8000000 in
set_option maxRecDepth 100000 in
theorem r2_clean.calls (k : Nat) (a0 : ByteArray) (r : Bool) (w : World) (h : r2_clean.f k a0 = some r) :
  Calls Tryd.prog 65 #[.string a0] w fun e w' => e = .returned (.bool r) ∧ Drawn0 w w' := by
 have H : (r2_clean.l0 k a0 0) = some r := h
 clear h
 have H' := Aq.mk H
 clear H
 go_enter Tryd.func65, Tryd.ntmps65
 go_wp2
 go_loopg [3] k (fun kq v3 w' => ∃ (x3_1 : Int), v3 = .int .i64 x3_1 ∧ Aq (r2_clean.l0 kq a0 x3_1 = some r) ∧ Aq (kq ≤ k) ∧ Drawn0 w w')
 case atStart => exact ⟨(0), (by first | rfl | (simp; done) | (simp [*]; done)), H', ⟨Nat.le_refl _⟩, by repeat (first | exact zN _ | apply zO)⟩
 case round =>
  clear H'
  obtain ⟨x3_1, rfl, HA, HK1, ⟨m1, rfl⟩⟩ := hrel
  cases gk with
  | zero => exact absurd HA.out (by simp [r2_clean.l0])
  | succ k1 =>
   have H := HA.out
   clear HA
   simp only [r2_clean.l0] at H
   by_cases c2 : x3_1 < (a0.size : Int)
   ·rw [if_pos c2] at H
    have c2b0 : decide (x3_1 < (a0.size : Int)) = true := zk c2
    clear c2
    by_cases c3 : 0 ≤ x3_1
    ·rw [if_pos c3] at H
     have c3b0 : decide (0 ≤ x3_1) = true := zk c3
     clear c3
     by_cases c5 : (bt a0 x3_1) < 32
     ·rw [if_pos c5] at H
      have c5b0 : decide ((bt a0 x3_1) < 32) = true := zk c5
      clear c5
      obtain rfl := yg H
      simp only [zH, zI] at H
      obtain ⟨rfl⟩ := H
      have p4 : 0 ≤ (x3_1 : Int) := zj (by assumption)
      have q4 : x3_1 < (a0.size : Int) := zj (by assumption)
      have hx4 := bt_at a0 x3_1
      replace p4 := eq_true p4
      replace q4 := eq_true q4
      go_wp2
      go_ret
      exact ⟨by first | rfl | (simp; done) | (simp; cases a0.toList <;> rfl) | (simp [*]; done), by repeat (first | exact zN _ | apply zO)⟩
     ·rw [if_neg c5] at H
      have c5b0 : decide ((bt a0 x3_1) < 32) = false := zl c5
      clear c5
      by_cases c7 : (bt a0 x3_1) = 127
      ·rw [if_pos c7] at H
       have c7b0 : ((bt a0 x3_1) == 127) = true := yc.mpr c7
       have c7b1 : ((bt a0 x3_1) != 127) = false := yf.mpr c7
       clear c7
       obtain rfl := yg H
       simp only [zH, zI] at H
       obtain ⟨rfl⟩ := H
       have p4 : 0 ≤ (x3_1 : Int) := zj (by assumption)
       have q4 : x3_1 < (a0.size : Int) := zj (by assumption)
       have hx4 := bt_at a0 x3_1
       replace p4 := eq_true p4
       replace q4 := eq_true q4
       have p6 : 0 ≤ (x3_1 : Int) := zj (by assumption)
       have q6 : x3_1 < (a0.size : Int) := zj (by assumption)
       have hx6 := bt_at a0 x3_1
       replace p6 := eq_true p6
       replace q6 := eq_true q6
       go_wp2
       go_ret
       exact ⟨by first | rfl | (simp; done) | (simp; cases a0.toList <;> rfl) | (simp [*]; done), by repeat (first | exact zN _ | apply zO)⟩
      ·rw [if_neg c7] at H
       have c7b0 : ((bt a0 x3_1) == 127) = false := ye.mpr c7
       have c7b1 : ((bt a0 x3_1) != 127) = true := yd.mpr c7
       have H' := Aq.mk H
       clear H
       have p4 : 0 ≤ (x3_1 : Int) := zj (by assumption)
       have q4 : x3_1 < (a0.size : Int) := zj (by assumption)
       have hx4 := bt_at a0 x3_1
       replace p4 := eq_true p4
       replace q4 := eq_true q4
       have p6 : 0 ≤ (x3_1 : Int) := zj (by assumption)
       have q6 : x3_1 < (a0.size : Int) := zj (by assumption)
       have hx6 := bt_at a0 x3_1
       replace p6 := eq_true p6
       replace q6 := eq_true q6
       go_wp2
       go_roundg k1
       case measure => have := HK1.out; omega
       case rel => exact ⟨(wrap64 (x3_1 + 1)), (by first | rfl | (simp; done) | (simp [*]; done)), H', ⟨by have := HK1.out; omega⟩, by repeat (first | exact zN _ | apply zO)⟩
    ·rw [if_neg c3] at H
     exact absurd H (by simp)
   ·rw [if_neg c2] at H
    have c2b0 : decide (x3_1 < (a0.size : Int)) = false := zl c2
    clear c2
    obtain rfl := yg H
    simp only [zH, zI] at H
    obtain ⟨rfl⟩ := H
    go_wp2
    go_ret
    exact ⟨by first | rfl | (simp; done) | (simp; cases a0.toList <;> rfl) | (simp [*]; done), by repeat (first | exact zN _ | apply zO)⟩
end Go.Proofs.YtmnfjbmhlabdaaaDoor.Pr
