-- Written by a program of the session (wip/pr.py) out of the translation; Lean checks it.
import Derived.Test.YtmnfjbmhlabdaaaDoorDXa
import Derived.Test.YtmnfjbmhlabdaaaDoorDEh
import Derived.Test.YtmnfjbmhlabdaaaDoorDEo
import Derived.Test.YtmnfjbmhlabdaaaDoorDPk0
import Derived.Test.YtmnfjbmhlabdaaaDoorDPrx0
namespace Go.Proofs.YtmnfjbmhlabdaaaDoor.Pr
open Go.RowKit Go.Proofs.YtmnfjbmhlabdaaaDoorW.PrintWords Go.Proofs.YtmnfjbmhlabdaaaDoorW.PrintLast Go.Proofs.YtmnfjbmhlabdaaaDoorW.PrintMore
attribute [local go_sem] max2_int min2_int max_two min_two max_three min_three max_four min_four leq_not   -- for this text's walks alone
set_option linter.unusedVariables false
set_option linter.unusedSimpArgs false
def provenderref2_IsHex.l0 : Nat → ByteArray → Int → Int → Option (Bool)
 | 0, _, _, _ => none
 | k + 1, x0, x1, x5 => if x5 < (x0.size : Int) then (if 0 ≤ x5 then (if (bt x0 x5) ≥ 48 then (if (bt x0 x5) ≤ 57 then (provenderref2_IsHex.l0 k x0 x1 (wrap64 (x5 + 1))) else (if (bt x0 x5) ≥ 97 then (if ((bt x0 x5) ≤ 102) then (provenderref2_IsHex.l0 k x0 x1 (wrap64 (x5 + 1))) else (some false)) else (some false))) else (if (bt x0 x5) ≥ 97 then (if ((bt x0 x5) ≤ 102) then (provenderref2_IsHex.l0 k x0 x1 (wrap64 (x5 + 1))) else (some false)) else (some false))) else (none)) else (some ((x0.size : Int) == x1))
def provenderref2_IsHex.f (k : Nat) (a0 : ByteArray) (a1 : Int) : Option (Bool) := provenderref2_IsHex.l0 k a0 a1 0
set_option maxHeartbeats 8000000 in
set_option maxRecDepth 100000 in
theorem provenderref2_IsHex.calls (k : Nat) (a0 : ByteArray) (a1 : Int) (r : Bool) (w : World) (h : provenderref2_IsHex.f k a0 a1 = some r) :
  Calls Tryd.prog 83 #[.string a0, .int .i64 a1] w fun e w' => e = .returned (.bool r) ∧ Drawn0 w w' := by
 have H : (provenderref2_IsHex.l0 k a0 a1 0) = some r := h
 clear h
 have H' := Aside0.mk H
 clear H
 go_enter Tryd.func83, Tryd.ntmps83
 go_wp2
 go_loopg [5] k (fun kq v5 w' => ∃ (x5_1 : Int), v5 = .int .i64 x5_1 ∧ Aside0 (provenderref2_IsHex.l0 kq a0 a1 x5_1 = some r) ∧ Aside0 (kq ≤ k) ∧ Drawn0 w w')
 case atStart => exact ⟨(0), (by first | rfl | (simp; done) | (simp [*]; done)), H', ⟨Nat.le_refl _⟩, by repeat (first | exact Drawn0.refl _ | apply Drawn0.step)⟩
 case round =>
  clear H'
  try clear p2
  obtain ⟨x5_1, rfl, HA, HK1, ⟨m1, rfl⟩⟩ := hrel
  cases gk with
  | zero => exact absurd HA.out (by simp [provenderref2_IsHex.l0])
  | succ k1 =>
   have H := HA.out
   clear HA
   simp only [provenderref2_IsHex.l0] at H
   by_cases c3 : x5_1 < (a0.size : Int)
   ·rw [if_pos c3] at H
    have c3b0 : decide (x5_1 < (a0.size : Int)) = true := zk c3
    clear c3
    by_cases c4 : 0 ≤ x5_1
    ·rw [if_pos c4] at H
     have c4b0 : decide (0 ≤ x5_1) = true := zk c4
     clear c4
     by_cases c6 : (bt a0 x5_1) ≥ 48
     ·rw [if_pos c6] at H
      have c6b0 : decide (48 ≤ (bt a0 x5_1)) = true := zk c6
      clear c6
      by_cases c8 : (bt a0 x5_1) ≤ 57
      ·rw [if_pos c8] at H
       have c8b0 : decide ((bt a0 x5_1) ≤ 57) = true := zk c8
       clear c8
       have H' := Aside0.mk H
       clear H
       have p5 : 0 ≤ (x5_1 : Int) := zj (by first | (with_reducible assumption) | assumption)
       have q5 : x5_1 < (a0.size : Int) := zj (by first | (with_reducible assumption) | assumption)
       have hx5 := bt_at a0 x5_1
       replace p5 := eq_true p5
       replace q5 := eq_true q5
       have p7 : 0 ≤ (x5_1 : Int) := zj (by first | (with_reducible assumption) | assumption)
       have q7 : x5_1 < (a0.size : Int) := zj (by first | (with_reducible assumption) | assumption)
       have hx7 := bt_at a0 x5_1
       replace p7 := eq_true p7
       replace q7 := eq_true q7
       go_wp2
       go_roundg k1
       case measure => have := HK1.out; omega
       case rel => exact ⟨(wrap64 (x5_1 + 1)), (by first | rfl | (simp; done) | (simp [*]; done)), H', ⟨by have := HK1.out; omega⟩, by repeat (first | exact Drawn0.refl _ | apply Drawn0.step)⟩
      ·rw [if_neg c8] at H
       have c8b0 : decide ((bt a0 x5_1) ≤ 57) = false := zl c8
       clear c8
       by_cases c10 : (bt a0 x5_1) ≥ 97
       ·rw [if_pos c10] at H
        have c10b0 : decide (97 ≤ (bt a0 x5_1)) = true := zk c10
        clear c10
        by_cases c12 : ((bt a0 x5_1) ≤ 102)
        ·rw [if_pos c12] at H
         have c12b0 : decide ((bt a0 x5_1) ≤ 102) = true := zk c12
         clear c12
         have H' := Aside0.mk H
         clear H
         have p5 : 0 ≤ (x5_1 : Int) := zj (by first | (with_reducible assumption) | assumption)
         have q5 : x5_1 < (a0.size : Int) := zj (by first | (with_reducible assumption) | assumption)
         have hx5 := bt_at a0 x5_1
         replace p5 := eq_true p5
         replace q5 := eq_true q5
         have p7 : 0 ≤ (x5_1 : Int) := zj (by first | (with_reducible assumption) | assumption)
         have q7 : x5_1 < (a0.size : Int) := zj (by first | (with_reducible assumption) | assumption)
         have hx7 := bt_at a0 x5_1
         replace p7 := eq_true p7
         replace q7 := eq_true q7
         have p9 : 0 ≤ (x5_1 : Int) := zj (by first | (with_reducible assumption) | assumption)
         have q9 : x5_1 < (a0.size : Int) := zj (by first | (with_reducible assumption) | assumption)
         have hx9 := bt_at a0 x5_1
         replace p9 := eq_true p9
         replace q9 := eq_true q9
         have p11 : 0 ≤ (x5_1 : Int) := zj (by first | (with_reducible assumption) | assumption)
         have q11 : x5_1 < (a0.size : Int) := zj (by first | (with_reducible assumption) | assumption)
         have hx11 := bt_at a0 x5_1
         replace p11 := eq_true p11
         replace q11 := eq_true q11
         go_wp2
         go_roundg k1
         case measure => have := HK1.out; omega
         case rel => exact ⟨(wrap64 (x5_1 + 1)), (by first | rfl | (simp; done) | (simp [*]; done)), H', ⟨by have := HK1.out; omega⟩, by repeat (first | exact Drawn0.refl _ | apply Drawn0.step)⟩
        ·rw [if_neg c12] at H
         have c12b0 : decide ((bt a0 x5_1) ≤ 102) = false := zl c12
         clear c12
         obtain rfl := Option.some.inj H
         simp only [Option.some.injEq, Prod.mk.injEq] at H
         obtain ⟨rfl⟩ := H
         have p5 : 0 ≤ (x5_1 : Int) := zj (by first | (with_reducible assumption) | assumption)
         have q5 : x5_1 < (a0.size : Int) := zj (by first | (with_reducible assumption) | assumption)
         have hx5 := bt_at a0 x5_1
         replace p5 := eq_true p5
         replace q5 := eq_true q5
         have p7 : 0 ≤ (x5_1 : Int) := zj (by first | (with_reducible assumption) | assumption)
         have q7 : x5_1 < (a0.size : Int) := zj (by first | (with_reducible assumption) | assumption)
         have hx7 := bt_at a0 x5_1
         replace p7 := eq_true p7
         replace q7 := eq_true q7
         have p9 : 0 ≤ (x5_1 : Int) := zj (by first | (with_reducible assumption) | assumption)
         have q9 : x5_1 < (a0.size : Int) := zj (by first | (with_reducible assumption) | assumption)
         have hx9 := bt_at a0 x5_1
         replace p9 := eq_true p9
         replace q9 := eq_true q9
         have p11 : 0 ≤ (x5_1 : Int) := zj (by first | (with_reducible assumption) | assumption)
         have q11 : x5_1 < (a0.size : Int) := zj (by first | (with_reducible assumption) | assumption)
         have hx11 := bt_at a0 x5_1
         replace p11 := eq_true p11
         replace q11 := eq_true q11
         go_wp2
         go_ret
         exact ⟨by first | rfl | (simp; done) | (simp [*]; done), by repeat (first | exact Drawn0.refl _ | apply Drawn0.step)⟩
       ·rw [if_neg c10] at H
        have c10b0 : decide (97 ≤ (bt a0 x5_1)) = false := zl c10
        clear c10
        obtain rfl := Option.some.inj H
        simp only [Option.some.injEq, Prod.mk.injEq] at H
        obtain ⟨rfl⟩ := H
        have p5 : 0 ≤ (x5_1 : Int) := zj (by first | (with_reducible assumption) | assumption)
        have q5 : x5_1 < (a0.size : Int) := zj (by first | (with_reducible assumption) | assumption)
        have hx5 := bt_at a0 x5_1
        replace p5 := eq_true p5
        replace q5 := eq_true q5
        have p7 : 0 ≤ (x5_1 : Int) := zj (by first | (with_reducible assumption) | assumption)
        have q7 : x5_1 < (a0.size : Int) := zj (by first | (with_reducible assumption) | assumption)
        have hx7 := bt_at a0 x5_1
        replace p7 := eq_true p7
        replace q7 := eq_true q7
        have p9 : 0 ≤ (x5_1 : Int) := zj (by first | (with_reducible assumption) | assumption)
        have q9 : x5_1 < (a0.size : Int) := zj (by first | (with_reducible assumption) | assumption)
        have hx9 := bt_at a0 x5_1
        replace p9 := eq_true p9
        replace q9 := eq_true q9
        go_wp2
        go_ret
        exact ⟨by first | rfl | (simp; done) | (simp [*]; done), by repeat (first | exact Drawn0.refl _ | apply Drawn0.step)⟩
     ·rw [if_neg c6] at H
      have c6b0 : decide (48 ≤ (bt a0 x5_1)) = false := zl c6
      clear c6
      by_cases c14 : (bt a0 x5_1) ≥ 97
      ·rw [if_pos c14] at H
       have c14b0 : decide (97 ≤ (bt a0 x5_1)) = true := zk c14
       clear c14
       by_cases c16 : ((bt a0 x5_1) ≤ 102)
       ·rw [if_pos c16] at H
        have c16b0 : decide ((bt a0 x5_1) ≤ 102) = true := zk c16
        clear c16
        have H' := Aside0.mk H
        clear H
        have p5 : 0 ≤ (x5_1 : Int) := zj (by first | (with_reducible assumption) | assumption)
        have q5 : x5_1 < (a0.size : Int) := zj (by first | (with_reducible assumption) | assumption)
        have hx5 := bt_at a0 x5_1
        replace p5 := eq_true p5
        replace q5 := eq_true q5
        have p13 : 0 ≤ (x5_1 : Int) := zj (by first | (with_reducible assumption) | assumption)
        have q13 : x5_1 < (a0.size : Int) := zj (by first | (with_reducible assumption) | assumption)
        have hx13 := bt_at a0 x5_1
        replace p13 := eq_true p13
        replace q13 := eq_true q13
        have p15 : 0 ≤ (x5_1 : Int) := zj (by first | (with_reducible assumption) | assumption)
        have q15 : x5_1 < (a0.size : Int) := zj (by first | (with_reducible assumption) | assumption)
        have hx15 := bt_at a0 x5_1
        replace p15 := eq_true p15
        replace q15 := eq_true q15
        go_wp2
        go_roundg k1
        case measure => have := HK1.out; omega
        case rel => exact ⟨(wrap64 (x5_1 + 1)), (by first | rfl | (simp; done) | (simp [*]; done)), H', ⟨by have := HK1.out; omega⟩, by repeat (first | exact Drawn0.refl _ | apply Drawn0.step)⟩
       ·rw [if_neg c16] at H
        have c16b0 : decide ((bt a0 x5_1) ≤ 102) = false := zl c16
        clear c16
        obtain rfl := Option.some.inj H
        simp only [Option.some.injEq, Prod.mk.injEq] at H
        obtain ⟨rfl⟩ := H
        have p5 : 0 ≤ (x5_1 : Int) := zj (by first | (with_reducible assumption) | assumption)
        have q5 : x5_1 < (a0.size : Int) := zj (by first | (with_reducible assumption) | assumption)
        have hx5 := bt_at a0 x5_1
        replace p5 := eq_true p5
        replace q5 := eq_true q5
        have p13 : 0 ≤ (x5_1 : Int) := zj (by first | (with_reducible assumption) | assumption)
        have q13 : x5_1 < (a0.size : Int) := zj (by first | (with_reducible assumption) | assumption)
        have hx13 := bt_at a0 x5_1
        replace p13 := eq_true p13
        replace q13 := eq_true q13
        have p15 : 0 ≤ (x5_1 : Int) := zj (by first | (with_reducible assumption) | assumption)
        have q15 : x5_1 < (a0.size : Int) := zj (by first | (with_reducible assumption) | assumption)
        have hx15 := bt_at a0 x5_1
        replace p15 := eq_true p15
        replace q15 := eq_true q15
        go_wp2
        go_ret
        exact ⟨by first | rfl | (simp; done) | (simp [*]; done), by repeat (first | exact Drawn0.refl _ | apply Drawn0.step)⟩
      ·rw [if_neg c14] at H
       have c14b0 : decide (97 ≤ (bt a0 x5_1)) = false := zl c14
       clear c14
       obtain rfl := Option.some.inj H
       simp only [Option.some.injEq, Prod.mk.injEq] at H
       obtain ⟨rfl⟩ := H
       have p5 : 0 ≤ (x5_1 : Int) := zj (by first | (with_reducible assumption) | assumption)
       have q5 : x5_1 < (a0.size : Int) := zj (by first | (with_reducible assumption) | assumption)
       have hx5 := bt_at a0 x5_1
       replace p5 := eq_true p5
       replace q5 := eq_true q5
       have p13 : 0 ≤ (x5_1 : Int) := zj (by first | (with_reducible assumption) | assumption)
       have q13 : x5_1 < (a0.size : Int) := zj (by first | (with_reducible assumption) | assumption)
       have hx13 := bt_at a0 x5_1
       replace p13 := eq_true p13
       replace q13 := eq_true q13
       go_wp2
       go_ret
       exact ⟨by first | rfl | (simp; done) | (simp [*]; done), by repeat (first | exact Drawn0.refl _ | apply Drawn0.step)⟩
    ·rw [if_neg c4] at H
     exact absurd H (by simp)
   ·rw [if_neg c3] at H
    have c3b0 : decide (x5_1 < (a0.size : Int)) = false := zl c3
    clear c3
    obtain rfl := Option.some.inj H
    simp only [Option.some.injEq, Prod.mk.injEq] at H
    obtain ⟨rfl⟩ := H
    go_wp2
    go_ret
    exact ⟨by first | rfl | (simp; done) | (simp [*]; done), by repeat (first | exact Drawn0.refl _ | apply Drawn0.step)⟩
mutual
def provenderref2_CheckDigests.l0 : Nat → List (S108) → List (S108) → Int → Int → Option (Int)
 | 0, _, _, _, _ => none
 | k + 1, x0, x9, x10, x11 => if x11 < x10 then (if 0 ≤ x11 then (if x11 < (x9.length : Int) then (if ((rd_T108 x9 x11).f0).toList = ([115, 104, 97, 50, 53, 54] : List UInt8) then (provenderref2_CheckDigests.j1 k x0 x11 64 x9 x10 x11 ((rd_T108 x9 x11).f0) ((rd_T108 x9 x11).f1)) else (if ((rd_T108 x9 x11).f0).toList = ([115, 117, 109, 54, 52] : List UInt8) then (provenderref2_CheckDigests.j1 k x0 x11 16 x9 x10 x11 ((rd_T108 x9 x11).f0) ((rd_T108 x9 x11).f1)) else (some 7))) else (none)) else (none)) else (some 0)
def provenderref2_CheckDigests.j1 : Nat → List (S108) → Int → Int → List (S108) → Int → Int → ByteArray → ByteArray → Option (Int)
 | 0, _, _, _, _, _, _, _, _ => none
 | k + 1, x0, x3, x5, x9, x10, x11, x189000, x189001 => (provenderref2_IsHex.f k x189001 x5).bind fun t189 => (if t189 = true then (if x3 > 0 then (if 0 ≤ (wrap64 (x3 - 1)) then (if (wrap64 (x3 - 1)) < (x0.length : Int) then (if ((Op.bytesLess (((rd_T108 x0 (wrap64 (x3 - 1))).f0).toList) x189000.toList) = true) then (provenderref2_CheckDigests.l0 k x0 x9 x10 (wrap64 (x11 + 1))) else (some 10)) else (none)) else (none)) else (provenderref2_CheckDigests.l0 k x0 x9 x10 (wrap64 (x11 + 1)))) else (some 2))
end
def provenderref2_CheckDigests.f (k : Nat) (l0 : List (S108)) : Option (Int) := if (l0.length : Int) > 4 then (some 3) else (provenderref2_CheckDigests.l0 k l0 l0 (l0.length : Int) 0)
set_option maxHeartbeats 8000000 in
set_option maxRecDepth 100000 in
theorem provenderref2_CheckDigests.calls (k : Nat) (A0 : Option Addr) (c0 : Nat) (l0 : List (S108)) (r : Int) (w : World) (hr0 : Kd.C k108 w A0 l0.length l0) (hc0 : l0.length ≤ c0) (h : provenderref2_CheckDigests.f k l0 = some r) :
  Calls Tryd.prog 36 #[.slice A0 l0.length c0] w fun e w' => e = .returned (.int .i64 r) ∧ Below w.heap.size w w' := by
 have hu108 := Tryd.underlying108
 have HR0 := Aside0.mk hr0
 have HC0 := Aside0.mk hc0
 clear hr0 hc0
 have HB := Aside0.mk (Below.refl w.heap.size w)
 have H : (if (l0.length : Int) > 4 then (some 3) else (provenderref2_CheckDigests.l0 k l0 l0 (l0.length : Int) 0)) = some r := h
 clear h
 by_cases c2 : (l0.length : Int) > 4
 ·rw [if_pos c2] at H
  have c2b0 : decide (4 < (l0.length : Int)) = true := zk c2
  have c2b1 : decide (4 < l0.length) = true := zk (by omega)
  clear c2
  obtain rfl := Option.some.inj H
  simp only [Option.some.injEq, Prod.mk.injEq] at H
  obtain ⟨rfl⟩ := H
  go_enter Tryd.func36, Tryd.ntmps36
  go_wp2
  repeat (go_quiet (fail); try go_wp2)
  go_ret
  exact ⟨by first | rfl | (simp [errW_none, errW_some] <;> rfl) | (simp [*, errW_none, errW_some] <;> rfl), by repeat (first | (with_reducible first | exact HB.out | apply zd | apply zb | apply zc) | exact HB.out)⟩
 ·rw [if_neg c2] at H
  have c2b0 : decide (4 < (l0.length : Int)) = false := zl c2
  have c2b1 : decide (4 < l0.length) = false := zl (by omega)
  clear c2
  have H' := Aside0.mk H
  clear H
  go_enter Tryd.func36, Tryd.ntmps36
  go_wp2
  repeat (go_quiet (fail); try go_wp2)
  go_loopg [11] k (fun kq v11 w' => ∃ (x11_1 : Int), v11 = .int .i64 x11_1 ∧ Aside0 (provenderref2_CheckDigests.l0 kq l0 l0 (l0.length : Int) x11_1 = some r) ∧ Aside0 (kq ≤ k) ∧ Aside0 (Below w.heap.size w w'))
  case atStart => exact ⟨(0), (by first | rfl | (simp; done) | (simp [*]; done)), H', ⟨Nat.le_refl _⟩, ⟨by repeat (first | (with_reducible first | exact HB.out | apply zd | apply zb | apply zc) | exact HB.out)⟩⟩
  case round =>
   clear H'
   try clear c2
   try clear c2b0
   try clear c2b1
   try clear p2
   obtain ⟨x11_1, rfl, HA, HK1, HB⟩ := hrel
   cases gk with
   | zero => exact absurd HA.out (by simp [provenderref2_CheckDigests.l0])
   | succ k1 =>
    have H := HA.out
    clear HA
    simp only [provenderref2_CheckDigests.l0] at H
    by_cases c3 : x11_1 < (l0.length : Int)
    ·rw [if_pos c3] at H
     have c3b0 : decide (x11_1 < (l0.length : Int)) = true := zk c3
     clear c3
     by_cases c4 : 0 ≤ x11_1
     ·rw [if_pos c4] at H
      have c4b0 : decide (0 ≤ x11_1) = true := zk c4
      clear c4
      by_cases c5 : x11_1 < (l0.length : Int)
      ·rw [if_pos c5] at H
       have c5b0 : decide (x11_1 < (l0.length : Int)) = true := zk c5
       clear c5
       have HC6 := Aside0.mk H
       clear H
       have p187 : 0 ≤ (x11_1 : Int) := zj (by first | (with_reducible assumption) | assumption)
       have q187 : x11_1 < (l0.length : Int) := zj (by first | (with_reducible assumption) | assumption)
       obtain ⟨ad187, e187, hx187_0, hx187_1⟩ := at_T108 HR0.out x11_1 p187 q187
       cases e187
       replace hx187_0 := (HB.out.cell (World.block_lt_of_cell? w _ hx187_0)).trans hx187_0
       replace hx187_1 := (HB.out.cell (World.block_lt_of_cell? w _ hx187_1)).trans hx187_1
       replace p187 := eq_true p187
       replace q187 := eq_true q187
       go_upto_block 2 with (first | ((with_reducible refine gate_dst (N := 4) rfl ?_); refine box_event ?hg (N := 4) ?hd (cs := #[.string (⟨#[]⟩ : ByteArray), .string (⟨#[]⟩ : ByteArray)]) (t := 108) ?hr ?_; (case hd => rfl); (case hg => rfl); (case hr => first | (go_simp; done) | (go_simp; rfl)); intro gb188 hg w7 hbox hb; have n0_ := Aside0.mk (zv (by repeat (first | (with_reducible first | exact HB.out | apply zd | apply zb | apply zc) | exact HB.out)) hb); have n1_ := Aside0.mk (hbox); have n2_ := Aside0.mk ((by rw [hg]; exact (zz (by repeat (first | (with_reducible first | exact HB.out | apply zd | apply zb | apply zc) | exact HB.out))) : w.heap.size ≤ gb188)); have n3_ := Aside0.mk ((by rw [hg]; exact (zz (by repeat (first | (with_reducible first | exact HB.out | apply zd | apply zb | apply zc) | exact HB.out))) : w.heap.size ≤ gb188)); clear HB; have HB := n0_; have BK188 := n1_; have GW188 := n2_; have GE188 := n3_; clear n0_ n1_ n2_ n3_; clear hb hbox hg; have hcz8_0 : w7.cell? ⟨gb188, 0, none⟩ = some (.string (⟨#[]⟩ : ByteArray)) := (ze BK188.out 0).trans rfl; have hcz8_1 : w7.cell? ⟨gb188, 1, none⟩ = some (.string (⟨#[]⟩ : ByteArray)) := (ze BK188.out 1).trans rfl; have hfz8_0 := za BK188.out 0; have hfz8_1 := za BK188.out 1))
       repeat (go_quiet (first | ((with_reducible refine gate_dst (N := 4) rfl ?_); refine box_event ?hg (N := 4) ?hd (cs := #[.string (⟨#[]⟩ : ByteArray), .string (⟨#[]⟩ : ByteArray)]) (t := 108) ?hr ?_; (case hd => rfl); (case hg => rfl); (case hr => first | (go_simp; done) | (go_simp; rfl)); intro gb188 hg w7 hbox hb; have n0_ := Aside0.mk (zv (by repeat (first | (with_reducible first | exact HB.out | apply zd | apply zb | apply zc) | exact HB.out)) hb); have n1_ := Aside0.mk (hbox); have n2_ := Aside0.mk ((by rw [hg]; exact (zz (by repeat (first | (with_reducible first | exact HB.out | apply zd | apply zb | apply zc) | exact HB.out))) : w.heap.size ≤ gb188)); have n3_ := Aside0.mk ((by rw [hg]; exact (zz (by repeat (first | (with_reducible first | exact HB.out | apply zd | apply zb | apply zc) | exact HB.out))) : w.heap.size ≤ gb188)); clear HB; have HB := n0_; have BK188 := n1_; have GW188 := n2_; have GE188 := n3_; clear n0_ n1_ n2_ n3_; clear hb hbox hg; have hcz8_0 : w7.cell? ⟨gb188, 0, none⟩ = some (.string (⟨#[]⟩ : ByteArray)) := (ze BK188.out 0).trans rfl; have hcz8_1 : w7.cell? ⟨gb188, 1, none⟩ = some (.string (⟨#[]⟩ : ByteArray)) := (ze BK188.out 1).trans rfl; have hfz8_0 := za BK188.out 0; have hfz8_1 := za BK188.out 1)); go_upto_block 2 with (first | ((with_reducible refine gate_dst (N := 4) rfl ?_); refine box_event ?hg (N := 4) ?hd (cs := #[.string (⟨#[]⟩ : ByteArray), .string (⟨#[]⟩ : ByteArray)]) (t := 108) ?hr ?_; (case hd => rfl); (case hg => rfl); (case hr => first | (go_simp; done) | (go_simp; rfl)); intro gb188 hg w7 hbox hb; have n0_ := Aside0.mk (zv (by repeat (first | (with_reducible first | exact HB.out | apply zd | apply zb | apply zc) | exact HB.out)) hb); have n1_ := Aside0.mk (hbox); have n2_ := Aside0.mk ((by rw [hg]; exact (zz (by repeat (first | (with_reducible first | exact HB.out | apply zd | apply zb | apply zc) | exact HB.out))) : w.heap.size ≤ gb188)); have n3_ := Aside0.mk ((by rw [hg]; exact (zz (by repeat (first | (with_reducible first | exact HB.out | apply zd | apply zb | apply zc) | exact HB.out))) : w.heap.size ≤ gb188)); clear HB; have HB := n0_; have BK188 := n1_; have GW188 := n2_; have GE188 := n3_; clear n0_ n1_ n2_ n3_; clear hb hbox hg; have hcz8_0 : w7.cell? ⟨gb188, 0, none⟩ = some (.string (⟨#[]⟩ : ByteArray)) := (ze BK188.out 0).trans rfl; have hcz8_1 : w7.cell? ⟨gb188, 1, none⟩ = some (.string (⟨#[]⟩ : ByteArray)) := (ze BK188.out 1).trans rfl; have hfz8_0 := za BK188.out 0; have hfz8_1 := za BK188.out 1)))
       (try simp only [Act.put, List.setIfInBounds_toArray, List.set_cons_zero, List.set_cons_succ])
       go_cut [5] (fun v5 wc => ∃ (kq : Nat) (x5_5 : Int), v5 = .int .i64 x5_5 ∧ Aside0 (provenderref2_CheckDigests.j1 kq l0 x11_1 x5_5 l0 (l0.length : Int) x11_1 ((rd_T108 l0 x11_1).f0) ((rd_T108 l0 x11_1).f1) = some r) ∧ Aside0 (kq ≤ k1) ∧ Aside0 (wc.heap[gb188]? = some (.cells #[.string ((rd_T108 l0 x11_1).f0), .string ((rd_T108 l0 x11_1).f1)] 108 (0, 0))) ∧ Aside0 (Below w.heap.size w wc))
       case first =>
        have H := HC6.out
        clear HC6
        by_cases c9 : ((rd_T108 l0 x11_1).f0).toList = ([115, 104, 97, 50, 53, 54] : List UInt8)
        ·rw [if_pos c9] at H
         have c9b0 : (((rd_T108 l0 x11_1).f0).toList == ([115, 104, 97, 50, 53, 54] : List UInt8)) = true := beq_iff_eq.mpr c9
         have c9b1 : (((rd_T108 l0 x11_1).f0).toList != ([115, 104, 97, 50, 53, 54] : List UInt8)) = false := bne_eq_false_iff_eq.mpr c9
         clear c9
         (first | rw [c9b0] | (simp only [i64_w, i32_w]; rw [c9b0]) | skip)
         have H' := Aside0.mk H
         clear H
         go_wp2
         repeat (go_quiet (fail); try go_wp2)
         go_meet
         case rel => exact ⟨_, (64), (by first | rfl | (simp; done) | (simp [*]; done)), H', ⟨by have := HK1.out; first | omega | exact Nat.le_refl _⟩, ⟨by (with_reducible repeat (first | refine zg ?_ _ | refine zi ?_ | refine zh ?_ _)); refine zy (cs := #[.string ((rd_T108 l0 x11_1).f0), .string (⟨#[]⟩ : ByteArray)]) ?_ 1 _ rfl; (with_reducible repeat (first | refine zg ?_ _ | refine zi ?_ | refine zh ?_ _)); refine zy (cs := #[.string (⟨#[]⟩ : ByteArray), .string (⟨#[]⟩ : ByteArray)]) ?_ 0 _ rfl; (with_reducible repeat (first | refine zg ?_ _ | refine zi ?_ | refine zh ?_ _)); exact BK188.out⟩, ⟨by repeat (first | (with_reducible first | exact HB.out | apply zd | apply zb | apply zc | refine zf ?_ GE188.out) | exact HB.out)⟩⟩
        ·rw [if_neg c9] at H
         have c9b0 : (((rd_T108 l0 x11_1).f0).toList == ([115, 104, 97, 50, 53, 54] : List UInt8)) = false := beq_eq_false_iff_ne.mpr c9
         have c9b1 : (((rd_T108 l0 x11_1).f0).toList != ([115, 104, 97, 50, 53, 54] : List UInt8)) = true := bne_iff_ne.mpr c9
         (first | rw [c9b0] | (simp only [i64_w, i32_w]; rw [c9b0]) | skip)
         by_cases c10 : ((rd_T108 l0 x11_1).f0).toList = ([115, 117, 109, 54, 52] : List UInt8)
         ·rw [if_pos c10] at H
          have c10b0 : (((rd_T108 l0 x11_1).f0).toList == ([115, 117, 109, 54, 52] : List UInt8)) = true := beq_iff_eq.mpr c10
          have c10b1 : (((rd_T108 l0 x11_1).f0).toList != ([115, 117, 109, 54, 52] : List UInt8)) = false := bne_eq_false_iff_eq.mpr c10
          clear c10
          have H' := Aside0.mk H
          clear H
          go_wp2
          repeat (go_quiet (fail); try go_wp2)
          go_meet
          case rel => exact ⟨_, (16), (by first | rfl | (simp; done) | (simp [*]; done)), H', ⟨by have := HK1.out; first | omega | exact Nat.le_refl _⟩, ⟨by (with_reducible repeat (first | refine zg ?_ _ | refine zi ?_ | refine zh ?_ _)); refine zy (cs := #[.string ((rd_T108 l0 x11_1).f0), .string (⟨#[]⟩ : ByteArray)]) ?_ 1 _ rfl; (with_reducible repeat (first | refine zg ?_ _ | refine zi ?_ | refine zh ?_ _)); refine zy (cs := #[.string (⟨#[]⟩ : ByteArray), .string (⟨#[]⟩ : ByteArray)]) ?_ 0 _ rfl; (with_reducible repeat (first | refine zg ?_ _ | refine zi ?_ | refine zh ?_ _)); exact BK188.out⟩, ⟨by repeat (first | (with_reducible first | exact HB.out | apply zd | apply zb | apply zc | refine zf ?_ GE188.out) | exact HB.out)⟩⟩
         ·rw [if_neg c10] at H
          have c10b0 : (((rd_T108 l0 x11_1).f0).toList == ([115, 117, 109, 54, 52] : List UInt8)) = false := beq_eq_false_iff_ne.mpr c10
          have c10b1 : (((rd_T108 l0 x11_1).f0).toList != ([115, 117, 109, 54, 52] : List UInt8)) = true := bne_iff_ne.mpr c10
          obtain rfl := Option.some.inj H
          simp only [Option.some.injEq, Prod.mk.injEq] at H
          obtain ⟨rfl⟩ := H
          go_wp2
          repeat (go_quiet (fail); try go_wp2)
          go_ret
          exact ⟨by first | rfl | (simp [errW_none, errW_some] <;> rfl) | (simp [*, errW_none, errW_some] <;> rfl), by repeat (first | (with_reducible first | exact HB.out | apply zd | apply zb | apply zc | refine zf ?_ GE188.out) | exact HB.out)⟩
       case rest =>
        clear HC6
        try clear c1
        try clear p1
        try clear q1
        try clear hx1
        try clear c2
        try clear c2b0
        try clear c2b1
        try clear p2
        try clear c3
        try clear c3b0
        try clear c4
        try clear c4b0
        try clear c5
        try clear c5b0
        try clear c9
        try clear c9b0
        try clear c9b1
        try clear c10
        try clear c10b0
        try clear c10b1
        try clear hcz8_0
        try clear hcz8_1
        try clear hfz8_0
        try clear hfz8_1
        try clear hx187_0
        try clear hx187_1
        try clear p187
        try clear p2
        try clear q187
        obtain ⟨kq, x5_5, rfl, HA, HJ5, BK188, HB⟩ := hcut
        cases kq with
        | zero => exact absurd HA.out (by simp [provenderref2_CheckDigests.j1])
        | succ kj5 =>
         have H := HA.out
         clear HA
         simp only [provenderref2_CheckDigests.j1] at H
         replace H := zu.mp H
         obtain ⟨t189, A110, H⟩ := H
         replace H : (if t189 = true then (if x11_1 > 0 then (if 0 ≤ (wrap64 (x11_1 - 1)) then (if (wrap64 (x11_1 - 1)) < (l0.length : Int) then (if ((Op.bytesLess (((rd_T108 l0 (wrap64 (x11_1 - 1))).f0).toList) ((rd_T108 l0 x11_1).f0).toList) = true) then (provenderref2_CheckDigests.l0 kj5 l0 l0 (l0.length : Int) (wrap64 (x11_1 + 1))) else (some 10)) else (none)) else (none)) else (provenderref2_CheckDigests.l0 kj5 l0 l0 (l0.length : Int) (wrap64 (x11_1 + 1)))) else (some 2)) = some r := H
         have A11 := Aside0.mk A110
         clear A110
         by_cases c12 : t189 = true
         ·subst c12
          have H1 : (if x11_1 > 0 then (if 0 ≤ (wrap64 (x11_1 - 1)) then (if (wrap64 (x11_1 - 1)) < (l0.length : Int) then (if ((Op.bytesLess (((rd_T108 l0 (wrap64 (x11_1 - 1))).f0).toList) ((rd_T108 l0 x11_1).f0).toList) = true) then (provenderref2_CheckDigests.l0 kj5 l0 l0 (l0.length : Int) (wrap64 (x11_1 + 1))) else (some 10)) else (none)) else (none)) else (provenderref2_CheckDigests.l0 kj5 l0 l0 (l0.length : Int) (wrap64 (x11_1 + 1)))) = some r := by rw [if_pos rfl] at H; exact H
          clear H
          have H := H1
          clear H1
          by_cases c13 : x11_1 > 0
          ·rw [if_pos c13] at H
           have c13b0 : decide (0 < x11_1) = true := zk c13
           clear c13
           obtain ⟨ji14, hji14⟩ : ∃ j_ : Int, (wrap64 (x11_1 - 1)) = j_ := ⟨_, rfl⟩
           replace H : (if 0 ≤ (ji14) then (if (ji14) < (l0.length : Int) then (if ((Op.bytesLess (((rd_T108 l0 (ji14)).f0).toList) ((rd_T108 l0 x11_1).f0).toList) = true) then (provenderref2_CheckDigests.l0 kj5 l0 l0 (l0.length : Int) (wrap64 (x11_1 + 1))) else (some 10)) else (none)) else (none)) = some r := by first | (rw [hji14] at H; exact H) | (simp only [hji14] at H ⊢; exact H)
           (try rw [hji14] at A11)
           have hji14w : (IntKind.i64.wrap (x11_1 - 1)) = ji14 := (i64_w _).trans hji14
           by_cases c15 : 0 ≤ (ji14)
           ·rw [if_pos c15] at H
            have c15b0 : decide (0 ≤ (ji14)) = true := zk c15
            clear c15
            by_cases c16 : (ji14) < (l0.length : Int)
            ·rw [if_pos c16] at H
             have c16b0 : decide ((ji14) < (l0.length : Int)) = true := zk c16
             clear c16
             by_cases c17 : ((Op.bytesLess (((rd_T108 l0 (ji14)).f0).toList) ((rd_T108 l0 x11_1).f0).toList) = true)
             ·rw [if_pos c17] at H
              have c17b0 : (Op.bytesLess (((rd_T108 l0 (ji14)).f0).toList) ((rd_T108 l0 x11_1).f0).toList) = true := c17
              clear c17
              have H' := Aside0.mk H
              clear H
              have hcz18_0 : wc.cell? ⟨gb188, 0, none⟩ = some (.string ((rd_T108 l0 x11_1).f0)) := (ze BK188.out 0).trans rfl
              have hcz18_1 : wc.cell? ⟨gb188, 1, none⟩ = some (.string ((rd_T108 l0 x11_1).f1)) := (ze BK188.out 1).trans rfl
              have hfz18_0 := za BK188.out 0
              have hfz18_1 := za BK188.out 1
              go_wp2_with (first | (go_at_call 83; (with_reducible refine (provenderref2_IsHex.calls kj5 ((rd_T108 l0 x11_1).f1) x5_5 true _ A11.out).mono ?_); rintro e w' ⟨rfl, ⟨nd, rfl⟩⟩; (try first | exact ⟨rfl, _, World.drewN_drewN _ _ _⟩ | exact ⟨rfl, _, Eq.trans (World.drewN_drewN _ _ _) (congrArg (World.drewN _) (Nat.add_assoc _ _ _))⟩); have p190 : 0 ≤ ((ji14) : Int) := zj (by first | (with_reducible assumption) | assumption); have q190 : (ji14) < (l0.length : Int) := zj (by first | (with_reducible assumption) | assumption); obtain ⟨ad190, e190, hx190_0, hx190_1⟩ := at_T108 HR0.out (ji14) p190 q190; obtain rfl : ad187 = ad190 := (by injection e190); replace hx190_0 := (HB.out.cell (World.block_lt_of_cell? w _ hx190_0)).trans hx190_0; replace hx190_1 := (HB.out.cell (World.block_lt_of_cell? w _ hx190_1)).trans hx190_1; replace p190 := eq_true p190; replace q190 := eq_true q190))
              repeat (go_quiet (first | (go_at_call 83; (with_reducible refine (provenderref2_IsHex.calls kj5 ((rd_T108 l0 x11_1).f1) x5_5 true _ A11.out).mono ?_); rintro e w' ⟨rfl, ⟨nd, rfl⟩⟩; (try first | exact ⟨rfl, _, World.drewN_drewN _ _ _⟩ | exact ⟨rfl, _, Eq.trans (World.drewN_drewN _ _ _) (congrArg (World.drewN _) (Nat.add_assoc _ _ _))⟩); have p190 : 0 ≤ ((ji14) : Int) := zj (by first | (with_reducible assumption) | assumption); have q190 : (ji14) < (l0.length : Int) := zj (by first | (with_reducible assumption) | assumption); obtain ⟨ad190, e190, hx190_0, hx190_1⟩ := at_T108 HR0.out (ji14) p190 q190; obtain rfl : ad187 = ad190 := (by injection e190); replace hx190_0 := (HB.out.cell (World.block_lt_of_cell? w _ hx190_0)).trans hx190_0; replace hx190_1 := (HB.out.cell (World.block_lt_of_cell? w _ hx190_1)).trans hx190_1; replace p190 := eq_true p190; replace q190 := eq_true q190)); try go_wp2_with (first | (go_at_call 83; (with_reducible refine (provenderref2_IsHex.calls kj5 ((rd_T108 l0 x11_1).f1) x5_5 true _ A11.out).mono ?_); rintro e w' ⟨rfl, ⟨nd, rfl⟩⟩; (try first | exact ⟨rfl, _, World.drewN_drewN _ _ _⟩ | exact ⟨rfl, _, Eq.trans (World.drewN_drewN _ _ _) (congrArg (World.drewN _) (Nat.add_assoc _ _ _))⟩); have p190 : 0 ≤ ((ji14) : Int) := zj (by first | (with_reducible assumption) | assumption); have q190 : (ji14) < (l0.length : Int) := zj (by first | (with_reducible assumption) | assumption); obtain ⟨ad190, e190, hx190_0, hx190_1⟩ := at_T108 HR0.out (ji14) p190 q190; obtain rfl : ad187 = ad190 := (by injection e190); replace hx190_0 := (HB.out.cell (World.block_lt_of_cell? w _ hx190_0)).trans hx190_0; replace hx190_1 := (HB.out.cell (World.block_lt_of_cell? w _ hx190_1)).trans hx190_1; replace p190 := eq_true p190; replace q190 := eq_true q190)))
              go_roundg kj5
              case measure => have := HK1.out; have := HJ5.out; omega
              case rel => exact ⟨(wrap64 (x11_1 + 1)), (by first | rfl | (simp; done) | (simp [*]; done)), H', ⟨by have := HK1.out; have := HJ5.out; omega⟩, ⟨by repeat (first | (with_reducible first | exact HB.out | apply zd | apply zb | apply zc | refine zf ?_ GE188.out) | exact HB.out)⟩⟩
             ·rw [if_neg c17] at H
              have c17b0 : (Op.bytesLess (((rd_T108 l0 (ji14)).f0).toList) ((rd_T108 l0 x11_1).f0).toList) = false := by simpa using c17
              clear c17
              obtain rfl := Option.some.inj H
              simp only [Option.some.injEq, Prod.mk.injEq] at H
              obtain ⟨rfl⟩ := H
              have hcz19_0 : wc.cell? ⟨gb188, 0, none⟩ = some (.string ((rd_T108 l0 x11_1).f0)) := (ze BK188.out 0).trans rfl
              have hcz19_1 : wc.cell? ⟨gb188, 1, none⟩ = some (.string ((rd_T108 l0 x11_1).f1)) := (ze BK188.out 1).trans rfl
              have hfz19_0 := za BK188.out 0
              have hfz19_1 := za BK188.out 1
              go_wp2_with (first | (go_at_call 83; (with_reducible refine (provenderref2_IsHex.calls kj5 ((rd_T108 l0 x11_1).f1) x5_5 true _ A11.out).mono ?_); rintro e w' ⟨rfl, ⟨nd, rfl⟩⟩; (try first | exact ⟨rfl, _, World.drewN_drewN _ _ _⟩ | exact ⟨rfl, _, Eq.trans (World.drewN_drewN _ _ _) (congrArg (World.drewN _) (Nat.add_assoc _ _ _))⟩); have p190 : 0 ≤ ((ji14) : Int) := zj (by first | (with_reducible assumption) | assumption); have q190 : (ji14) < (l0.length : Int) := zj (by first | (with_reducible assumption) | assumption); obtain ⟨ad190, e190, hx190_0, hx190_1⟩ := at_T108 HR0.out (ji14) p190 q190; obtain rfl : ad187 = ad190 := (by injection e190); replace hx190_0 := (HB.out.cell (World.block_lt_of_cell? w _ hx190_0)).trans hx190_0; replace hx190_1 := (HB.out.cell (World.block_lt_of_cell? w _ hx190_1)).trans hx190_1; replace p190 := eq_true p190; replace q190 := eq_true q190))
              repeat (go_quiet (first | (go_at_call 83; (with_reducible refine (provenderref2_IsHex.calls kj5 ((rd_T108 l0 x11_1).f1) x5_5 true _ A11.out).mono ?_); rintro e w' ⟨rfl, ⟨nd, rfl⟩⟩; (try first | exact ⟨rfl, _, World.drewN_drewN _ _ _⟩ | exact ⟨rfl, _, Eq.trans (World.drewN_drewN _ _ _) (congrArg (World.drewN _) (Nat.add_assoc _ _ _))⟩); have p190 : 0 ≤ ((ji14) : Int) := zj (by first | (with_reducible assumption) | assumption); have q190 : (ji14) < (l0.length : Int) := zj (by first | (with_reducible assumption) | assumption); obtain ⟨ad190, e190, hx190_0, hx190_1⟩ := at_T108 HR0.out (ji14) p190 q190; obtain rfl : ad187 = ad190 := (by injection e190); replace hx190_0 := (HB.out.cell (World.block_lt_of_cell? w _ hx190_0)).trans hx190_0; replace hx190_1 := (HB.out.cell (World.block_lt_of_cell? w _ hx190_1)).trans hx190_1; replace p190 := eq_true p190; replace q190 := eq_true q190)); try go_wp2_with (first | (go_at_call 83; (with_reducible refine (provenderref2_IsHex.calls kj5 ((rd_T108 l0 x11_1).f1) x5_5 true _ A11.out).mono ?_); rintro e w' ⟨rfl, ⟨nd, rfl⟩⟩; (try first | exact ⟨rfl, _, World.drewN_drewN _ _ _⟩ | exact ⟨rfl, _, Eq.trans (World.drewN_drewN _ _ _) (congrArg (World.drewN _) (Nat.add_assoc _ _ _))⟩); have p190 : 0 ≤ ((ji14) : Int) := zj (by first | (with_reducible assumption) | assumption); have q190 : (ji14) < (l0.length : Int) := zj (by first | (with_reducible assumption) | assumption); obtain ⟨ad190, e190, hx190_0, hx190_1⟩ := at_T108 HR0.out (ji14) p190 q190; obtain rfl : ad187 = ad190 := (by injection e190); replace hx190_0 := (HB.out.cell (World.block_lt_of_cell? w _ hx190_0)).trans hx190_0; replace hx190_1 := (HB.out.cell (World.block_lt_of_cell? w _ hx190_1)).trans hx190_1; replace p190 := eq_true p190; replace q190 := eq_true q190)))
              go_ret
              exact ⟨by first | rfl | (simp [errW_none, errW_some] <;> rfl) | (simp only [← hji14]; first | rfl | (simp [errW_none, errW_some] <;> rfl)) | (simp [*, errW_none, errW_some] <;> rfl), by repeat (first | (with_reducible first | exact HB.out | apply zd | apply zb | apply zc | refine zf ?_ GE188.out) | exact HB.out)⟩
            ·rw [if_neg c16] at H
             exact absurd H (by simp)
           ·rw [if_neg c15] at H
            exact absurd H (by simp)
          ·rw [if_neg c13] at H
           have c13b0 : decide (0 < x11_1) = false := zl c13
           clear c13
           have H' := Aside0.mk H
           clear H
           have hcz20_0 : wc.cell? ⟨gb188, 0, none⟩ = some (.string ((rd_T108 l0 x11_1).f0)) := (ze BK188.out 0).trans rfl
           have hcz20_1 : wc.cell? ⟨gb188, 1, none⟩ = some (.string ((rd_T108 l0 x11_1).f1)) := (ze BK188.out 1).trans rfl
           have hfz20_0 := za BK188.out 0
           have hfz20_1 := za BK188.out 1
           go_wp2_with (first | (go_at_call 83; (with_reducible refine (provenderref2_IsHex.calls kj5 ((rd_T108 l0 x11_1).f1) x5_5 true _ A11.out).mono ?_); rintro e w' ⟨rfl, ⟨nd, rfl⟩⟩; (try first | exact ⟨rfl, _, World.drewN_drewN _ _ _⟩ | exact ⟨rfl, _, Eq.trans (World.drewN_drewN _ _ _) (congrArg (World.drewN _) (Nat.add_assoc _ _ _))⟩)))
           repeat (go_quiet (first | (go_at_call 83; (with_reducible refine (provenderref2_IsHex.calls kj5 ((rd_T108 l0 x11_1).f1) x5_5 true _ A11.out).mono ?_); rintro e w' ⟨rfl, ⟨nd, rfl⟩⟩; (try first | exact ⟨rfl, _, World.drewN_drewN _ _ _⟩ | exact ⟨rfl, _, Eq.trans (World.drewN_drewN _ _ _) (congrArg (World.drewN _) (Nat.add_assoc _ _ _))⟩))); try go_wp2_with (first | (go_at_call 83; (with_reducible refine (provenderref2_IsHex.calls kj5 ((rd_T108 l0 x11_1).f1) x5_5 true _ A11.out).mono ?_); rintro e w' ⟨rfl, ⟨nd, rfl⟩⟩; (try first | exact ⟨rfl, _, World.drewN_drewN _ _ _⟩ | exact ⟨rfl, _, Eq.trans (World.drewN_drewN _ _ _) (congrArg (World.drewN _) (Nat.add_assoc _ _ _))⟩))))
           go_roundg kj5
           case measure => have := HK1.out; have := HJ5.out; omega
           case rel => exact ⟨(wrap64 (x11_1 + 1)), (by first | rfl | (simp; done) | (simp [*]; done)), H', ⟨by have := HK1.out; have := HJ5.out; omega⟩, ⟨by repeat (first | (with_reducible first | exact HB.out | apply zd | apply zb | apply zc | refine zf ?_ GE188.out) | exact HB.out)⟩⟩
         ·replace c12 := Bool.eq_false_iff.mpr c12
          subst c12
          have H1 : (some 2) = some r := by rw [if_neg (show ¬ (false = true) by decide)] at H; exact H
          clear H
          have H := H1
          clear H1
          obtain rfl := Option.some.inj H
          simp only [Option.some.injEq, Prod.mk.injEq] at H
          obtain ⟨rfl⟩ := H
          have hcz21_0 : wc.cell? ⟨gb188, 0, none⟩ = some (.string ((rd_T108 l0 x11_1).f0)) := (ze BK188.out 0).trans rfl
          have hcz21_1 : wc.cell? ⟨gb188, 1, none⟩ = some (.string ((rd_T108 l0 x11_1).f1)) := (ze BK188.out 1).trans rfl
          have hfz21_0 := za BK188.out 0
          have hfz21_1 := za BK188.out 1
          go_wp2_with (first | (go_at_call 83; (with_reducible refine (provenderref2_IsHex.calls kj5 ((rd_T108 l0 x11_1).f1) x5_5 false _ A11.out).mono ?_); rintro e w' ⟨rfl, ⟨nd, rfl⟩⟩; (try first | exact ⟨rfl, _, World.drewN_drewN _ _ _⟩ | exact ⟨rfl, _, Eq.trans (World.drewN_drewN _ _ _) (congrArg (World.drewN _) (Nat.add_assoc _ _ _))⟩)))
          repeat (go_quiet (first | (go_at_call 83; (with_reducible refine (provenderref2_IsHex.calls kj5 ((rd_T108 l0 x11_1).f1) x5_5 false _ A11.out).mono ?_); rintro e w' ⟨rfl, ⟨nd, rfl⟩⟩; (try first | exact ⟨rfl, _, World.drewN_drewN _ _ _⟩ | exact ⟨rfl, _, Eq.trans (World.drewN_drewN _ _ _) (congrArg (World.drewN _) (Nat.add_assoc _ _ _))⟩))); try go_wp2_with (first | (go_at_call 83; (with_reducible refine (provenderref2_IsHex.calls kj5 ((rd_T108 l0 x11_1).f1) x5_5 false _ A11.out).mono ?_); rintro e w' ⟨rfl, ⟨nd, rfl⟩⟩; (try first | exact ⟨rfl, _, World.drewN_drewN _ _ _⟩ | exact ⟨rfl, _, Eq.trans (World.drewN_drewN _ _ _) (congrArg (World.drewN _) (Nat.add_assoc _ _ _))⟩))))
          go_ret
          exact ⟨by first | rfl | (simp [errW_none, errW_some] <;> rfl) | (simp [*, errW_none, errW_some] <;> rfl), by repeat (first | (with_reducible first | exact HB.out | apply zd | apply zb | apply zc | refine zf ?_ GE188.out) | exact HB.out)⟩
      ·rw [if_neg c5] at H
       exact absurd H (by simp)
     ·rw [if_neg c4] at H
      exact absurd H (by simp)
    ·rw [if_neg c3] at H
     have c3b0 : decide (x11_1 < (l0.length : Int)) = false := zl c3
     clear c3
     obtain rfl := Option.some.inj H
     simp only [Option.some.injEq, Prod.mk.injEq] at H
     obtain ⟨rfl⟩ := H
     go_wp2
     repeat (go_quiet (fail); try go_wp2)
     go_ret
     exact ⟨by first | rfl | (simp [errW_none, errW_some] <;> rfl) | (simp [*, errW_none, errW_some] <;> rfl), by repeat (first | (with_reducible first | exact HB.out | apply zd | apply zb | apply zc) | exact HB.out)⟩
end Go.Proofs.YtmnfjbmhlabdaaaDoor.Pr
