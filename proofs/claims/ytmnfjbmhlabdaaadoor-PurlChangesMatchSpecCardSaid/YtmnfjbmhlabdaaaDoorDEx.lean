-- Written by a program of the session (wip/pr.py) out of the translation; Lean checks it.
import Derived.Test.YtmnfjbmhlabdaaaDoorDXa
import Derived.Test.YtmnfjbmhlabdaaaDoorDEc
import Derived.Test.YtmnfjbmhlabdaaaDoorDPrx0
namespace Go.Proofs.YtmnfjbmhlabdaaaDoor.Pr
open Go.RowKit Go.Proofs.YtmnfjbmhlabdaaaDoorW.PrintWords Go.Proofs.YtmnfjbmhlabdaaaDoorW.PrintLast Go.Proofs.YtmnfjbmhlabdaaaDoorW.PrintMore
attribute [local go_sem] max2_int min2_int max_two min_two max_three min_three max_four min_four
set_option linter.unusedVariables false
set_option linter.unusedSimpArgs false
def r2_long.l0 : Nat → List ByteArray → Int → Int → Option (Bool)
 | 0, _, _, _ => none
 | k + 1, x5, x6, x7 => if x7 < x6 then (if 0 ≤ x7 then (if x7 < (x5.length : Int) then (if ((rdOf ByteArray.empty x5 x7).size : Int) > 200 then (some true) else (r2_long.l0 k x5 x6 (wrap64 (x7 + 1)))) else (none)) else (none)) else (some false)
def r2_long.f (k : Nat) (l0 : List ByteArray) : Option (Bool) := r2_long.l0 k l0 (l0.length : Int) 0
set_option maxHeartbeats 8000000 in
set_option maxRecDepth 100000 in
theorem r2_long.calls (k : Nat) (A0 : Option Addr) (c0 : Nat) (l0 : List ByteArray) (r : Bool) (w : World) (hr0 : Kd.C Kd.string w A0 l0.length l0) (hc0 : l0.length ≤ c0) (h : r2_long.f k l0 = some r) :
  Calls Tryd.prog 61 #[.slice A0 l0.length c0] w fun e w' => e = .returned (.bool r) ∧ Drawn0 w w' := by
 have HR0 := Aq.mk hr0
 have HC0 := Aq.mk hc0
 clear hr0 hc0
 have H : (r2_long.l0 k l0 (l0.length : Int) 0) = some r := h
 clear h
 have H' := Aq.mk H
 clear H
 go_enter Tryd.func61, Tryd.ntmps61
 go_wp2
 go_loopg [7] k (fun kq v7 w' => ∃ (x7_1 : Int), v7 = .int .i64 x7_1 ∧ Aq (r2_long.l0 kq l0 (l0.length : Int) x7_1 = some r) ∧ Aq (kq ≤ k) ∧ Drawn0 w w')
 case atStart => exact ⟨(0), (by first | rfl | (simp; done) | (simp [*]; done)), H', ⟨Nat.le_refl _⟩, by repeat (first | exact zN _ | apply zO)⟩
 case round =>
  clear H'
  obtain ⟨x7_1, rfl, HA, HK1, ⟨m1, rfl⟩⟩ := hrel
  cases gk with
  | zero => exact absurd HA.out (by simp [r2_long.l0])
  | succ k1 =>
   have H := HA.out
   clear HA
   simp only [r2_long.l0] at H
   by_cases c2 : x7_1 < (l0.length : Int)
   ·rw [if_pos c2] at H
    have c2b0 : decide (x7_1 < (l0.length : Int)) = true := zk c2
    clear c2
    by_cases c3 : 0 ≤ x7_1
    ·rw [if_pos c3] at H
     have c3b0 : decide (0 ≤ x7_1) = true := zk c3
     clear c3
     by_cases c4 : x7_1 < (l0.length : Int)
     ·rw [if_pos c4] at H
      have c4b0 : decide (x7_1 < (l0.length : Int)) = true := zk c4
      clear c4
      by_cases c5 : ((rdOf ByteArray.empty l0 x7_1).size : Int) > 200
      ·rw [if_pos c5] at H
       have c5b0 : decide (200 < ((rdOf ByteArray.empty l0 x7_1).size : Int)) = true := zk c5
       have c5b1 : decide (200 < (rdOf ByteArray.empty l0 x7_1).size) = true := zk (by omega)
       clear c5
       obtain rfl := yg H
       simp only [zH, zI] at H
       obtain ⟨rfl⟩ := H
       have p208 : 0 ≤ (x7_1 : Int) := zj (by assumption)
       have q208 : x7_1 < (l0.length : Int) := zj (by assumption)
       obtain ⟨ad208, e208, hx208_0⟩ := Kd.at_string HR0.out x7_1 p208 q208
       cases e208
       replace p208 := eq_true p208
       replace q208 := eq_true q208
       go_wp2
       go_ret
       exact ⟨by first | rfl | (simp; done) | (simp [*]; done), by repeat (first | exact zN _ | apply zO)⟩
      ·rw [if_neg c5] at H
       have c5b0 : decide (200 < ((rdOf ByteArray.empty l0 x7_1).size : Int)) = false := zl c5
       have c5b1 : decide (200 < (rdOf ByteArray.empty l0 x7_1).size) = false := zl (by omega)
       clear c5
       have H' := Aq.mk H
       clear H
       have p208 : 0 ≤ (x7_1 : Int) := zj (by assumption)
       have q208 : x7_1 < (l0.length : Int) := zj (by assumption)
       obtain ⟨ad208, e208, hx208_0⟩ := Kd.at_string HR0.out x7_1 p208 q208
       cases e208
       replace p208 := eq_true p208
       replace q208 := eq_true q208
       go_wp2
       go_roundg k1
       case measure => have := HK1.out; omega
       case rel => exact ⟨(wrap64 (x7_1 + 1)), (by first | rfl | (simp; done) | (simp [*]; done)), H', ⟨by have := HK1.out; omega⟩, by repeat (first | exact zN _ | apply zO)⟩
     ·rw [if_neg c4] at H
      exact absurd H (by simp)
    ·rw [if_neg c3] at H
     exact absurd H (by simp)
   ·rw [if_neg c2] at H
    have c2b0 : decide (x7_1 < (l0.length : Int)) = false := zl c2
    clear c2
    obtain rfl := yg H
    simp only [zH, zI] at H
    obtain ⟨rfl⟩ := H
    go_wp2
    go_ret
    exact ⟨by first | rfl | (simp; done) | (simp [*]; done), by repeat (first | exact zN _ | apply zO)⟩
def r2_segments.f (a0 : ByteArray) : Option (List ByteArray) := if a0.toList = ([] : List UInt8) then (some ([] : List ByteArray)) else ((lib_Split.f a0 (⟨#[47]⟩ : ByteArray)).bind fun t209 => (some t209))
set_option maxHeartbeats 8000000 in
set_option maxRecDepth 100000 in
theorem r2_segments.calls (a0 : ByteArray) (r : List ByteArray) (w : World) (h : r2_segments.f a0 = some r) :
  Calls Tryd.prog 106 #[.string a0] w fun e w' => ∃ v0_ : Value, e = .returned (v0_) ∧ Kd.R Kd.string 9 w' w.heap.size (fun _ => True) v0_ r ∧ Below w.heap.size w w' := by
 have HB := Aq.mk (Below.refl w.heap.size w)
 have H : (if a0.toList = ([] : List UInt8) then (some ([] : List ByteArray)) else ((lib_Split.f a0 (⟨#[47]⟩ : ByteArray)).bind fun t209 => (some t209))) = some r := h
 clear h
 by_cases c2 : a0.toList = ([] : List UInt8)
 ·rw [if_pos c2] at H
  have c2b0 : (a0.toList == ([] : List UInt8)) = true := yc.mpr c2
  have c2b1 : (a0.toList != ([] : List UInt8)) = false := yf.mpr c2
  clear c2
  obtain rfl := yg H
  simp only [zH, zI] at H
  obtain ⟨rfl⟩ := H
  go_enter Tryd.func106, Tryd.ntmps106
  go_wp2
  go_ret
  exact ⟨_, by first | rfl | (simp [yl, ym] <;> rfl) | (simp [*, yl, ym] <;> rfl), by first | exact Kd.R_nil _ _ _ _ _ | exact Kd.N_nil _ _ _ _ _ | exact Kd.V_nil _ _ _ _ _ | exact Kd.Q_nil _ _ _ _ _ | exact Kd.S_nil _ _ _ _ _, by repeat (with_reducible first | exact HB.out | apply zd | apply zb | apply zc)⟩
 ·rw [if_neg c2] at H
  have c2b0 : (a0.toList == ([] : List UInt8)) = false := ye.mpr c2
  have c2b1 : (a0.toList != ([] : List UInt8)) = true := yd.mpr c2
  replace H := zu.mp H
  obtain ⟨t209, A30, H⟩ := H
  replace H : (some t209) = some r := H
  have A3 := Aq.mk A30
  clear A30
  obtain rfl := yg H
  simp only [zH, zI] at H
  obtain ⟨rfl⟩ := H
  go_enter Tryd.func106, Tryd.ntmps106
  go_wp2_with (first | ((with_reducible refine gate_callee (f := 108) rfl ?_); refine goesL_ (some 6) rfl rfl Tryd.func108 (by kernel_rfl) rfl #[.string a0, .string (⟨#[47]⟩ : ByteArray)] rfl (by (try simp only [zP, zQ, zR]); first | done | rfl | (simp only [zS, zT]; rfl)) ?_; (with_reducible refine (lib_Split.calls a0 (⟨#[47]⟩ : ByteArray) t209 _ A3.out).mono ?_); rintro e w4 ⟨v210, rfl, ho0, hb⟩; refine ⟨_, rfl, ?_⟩; have n0_ := Aq.mk (zX ho0 (zz (by repeat (with_reducible first | exact HB.out | apply zd | apply zb | apply zc)))); have n1_ := Aq.mk (zv (by repeat (with_reducible first | exact HB.out | apply zd | apply zb | apply zc)) hb); clear HB; have HO211 := n0_; have HB := n1_; clear n0_ n1_; (try clear hb); (try clear hb2); (try clear hk); (try clear hi); (try clear ho0)))
  go_ret
  exact ⟨_, by first | rfl | (simp [yl, ym] <;> rfl) | (simp [*, yl, ym] <;> rfl), by (with_reducible repeat (first | apply zC | apply zB | apply zD)); exact HO211.out, by repeat (with_reducible first | exact HB.out | apply zd | apply zb | apply zc)⟩
def r2_badSegments.l0 : Nat → Bool → List ByteArray → List ByteArray → Int → Int → Option (Bool)
 | 0, _, _, _, _, _ => none
 | k + 1, x1, x5, x10, x11, x12 => if x12 < x11 then (if 0 ≤ x12 then (if x12 < (x10.length : Int) then (if (rdOf ByteArray.empty x10 x12).toList = ([] : List UInt8) then (some true) else (if x1 = true then (if (rdOf ByteArray.empty x10 x12).toList = ([46] : List UInt8) then (some true) else (if (rdOf ByteArray.empty x10 x12).toList = ([46, 46] : List UInt8) then (some true) else (r2_badSegments.l0 k x1 x5 x10 x11 (wrap64 (x12 + 1))))) else (r2_badSegments.l0 k x1 x5 x10 x11 (wrap64 (x12 + 1))))) else (none)) else (none)) else (some (decide ((x5.length : Int) > 10)))
def r2_badSegments.f (k : Nat) (a0 : ByteArray) (a1 : Bool) : Option (Bool) := (r2_segments.f a0).bind fun t212 => (r2_badSegments.l0 k a1 t212 t212 (t212.length : Int) 0)
set_option maxHeartbeats 8000000 in
set_option maxRecDepth 100000 in
theorem r2_badSegments.calls (k : Nat) (a0 : ByteArray) (a1 : Bool) (r : Bool) (w : World) (h : r2_badSegments.f k a0 a1 = some r) :
  Calls Tryd.prog 62 #[.string a0, .bool a1] w fun e w' => e = .returned (.bool r) ∧ Below w.heap.size w w' := by
 have HB := Aq.mk (Below.refl w.heap.size w)
 have H : ((r2_segments.f a0).bind fun t212 => (r2_badSegments.l0 k a1 t212 t212 (t212.length : Int) 0)) = some r := h
 clear h
 replace H := zu.mp H
 obtain ⟨t212, A30, H⟩ := H
 replace H : (r2_badSegments.l0 k a1 t212 t212 (t212.length : Int) 0) = some r := H
 have A3 := Aq.mk A30
 clear A30
 have H' := Aq.mk H
 clear H
 go_enter Tryd.func62, Tryd.ntmps62
 go_wp2_with (first | ((with_reducible refine gate_callee (f := 106) rfl ?_); refine goesL_ (some 9) rfl rfl Tryd.func106 (by kernel_rfl) rfl #[.string a0] rfl (by (try simp only [zP, zQ, zR]); first | done | rfl | (simp only [zS, zT]; rfl)) ?_; (with_reducible refine (r2_segments.calls a0 t212 _ A3.out).mono ?_); rintro e w4 ⟨v213, rfl, ho0, hb⟩; refine ⟨_, rfl, ?_⟩; have n0_ := Aq.mk (zX ho0 (zz (by repeat (with_reducible first | exact HB.out | apply zd | apply zb | apply zc)))); have n1_ := Aq.mk (zv (by repeat (with_reducible first | exact HB.out | apply zd | apply zb | apply zc)) hb); clear HB; have HO214 := n0_; have HB := n1_; clear n0_ n1_; (try clear hb); (try clear hb2); (try clear hk); (try clear hi); (try clear ho0); obtain ⟨Ao5, co5, eo5⟩ := yi HO214.out; subst eo5))
 go_loopg [12] k (fun kq v12 w' => ∃ (x12_1 : Int), v12 = .int .i64 x12_1 ∧ Aq (r2_badSegments.l0 kq a1 t212 t212 (t212.length : Int) x12_1 = some r) ∧ Aq (kq ≤ k) ∧ Aq (Kd.R Kd.string 9 w' w.heap.size (fun _ => True) (.slice Ao5 t212.length co5) t212) ∧ Aq (Kd.R Kd.string 9 w' w.heap.size (fun _ => True) (.slice Ao5 t212.length co5) t212) ∧ Aq (Below w.heap.size w w'))
 case atStart => exact ⟨(0), (by first | rfl | (simp; done) | (simp [*]; done)), H', ⟨Nat.le_refl _⟩, ⟨by (with_reducible repeat (first | apply zC | apply zB | apply zD)); exact HO214.out⟩, ⟨by (with_reducible repeat (first | apply zC | apply zB | apply zD)); exact HO214.out⟩, ⟨by repeat (with_reducible first | exact HB.out | apply zd | apply zb | apply zc)⟩⟩
 case round =>
  clear H'
  try clear c1
  try clear p2
  obtain ⟨x12_1, rfl, HA, HK1, HO_5, HO_10, HB⟩ := hrel
  cases gk with
  | zero => exact absurd HA.out (by simp [r2_badSegments.l0])
  | succ k1 =>
   have H := HA.out
   clear HA
   simp only [r2_badSegments.l0] at H
   by_cases c6 : x12_1 < (t212.length : Int)
   ·rw [if_pos c6] at H
    have c6b0 : decide (x12_1 < (t212.length : Int)) = true := zk c6
    clear c6
    by_cases c7 : 0 ≤ x12_1
    ·rw [if_pos c7] at H
     have c7b0 : decide (0 ≤ x12_1) = true := zk c7
     clear c7
     by_cases c8 : x12_1 < (t212.length : Int)
     ·rw [if_pos c8] at H
      have c8b0 : decide (x12_1 < (t212.length : Int)) = true := zk c8
      clear c8
      by_cases c9 : (rdOf ByteArray.empty t212 x12_1).toList = ([] : List UInt8)
      ·rw [if_pos c9] at H
       have c9b0 : ((rdOf ByteArray.empty t212 x12_1).toList == ([] : List UInt8)) = true := yc.mpr c9
       have c9b1 : ((rdOf ByteArray.empty t212 x12_1).toList != ([] : List UInt8)) = false := yf.mpr c9
       clear c9
       obtain rfl := yg H
       simp only [zH, zI] at H
       obtain ⟨rfl⟩ := H
       have p215 : 0 ≤ (x12_1 : Int) := zj (by assumption)
       have q215 : x12_1 < (t212.length : Int) := zj (by assumption)
       obtain ⟨ad215, e215, hx215_0⟩ := Kd.at_string (Kd.R_reads' HO_10.out).2.2 x12_1 p215 q215
       cases e215
       replace p215 := eq_true p215
       replace q215 := eq_true q215
       go_wp2
       go_ret
       exact ⟨by first | rfl | (simp [yl, ym] <;> rfl) | (simp [*, yl, ym] <;> rfl), by repeat (with_reducible first | exact HB.out | apply zd | apply zb | apply zc)⟩
      ·rw [if_neg c9] at H
       have c9b0 : ((rdOf ByteArray.empty t212 x12_1).toList == ([] : List UInt8)) = false := ye.mpr c9
       have c9b1 : ((rdOf ByteArray.empty t212 x12_1).toList != ([] : List UInt8)) = true := yd.mpr c9
       by_cases c10 : a1 = true
       ·subst c10
        have H1 : (if (rdOf ByteArray.empty t212 x12_1).toList = ([46] : List UInt8) then (some true) else (if (rdOf ByteArray.empty t212 x12_1).toList = ([46, 46] : List UInt8) then (some true) else (r2_badSegments.l0 k1 true t212 t212 (t212.length : Int) (wrap64 (x12_1 + 1))))) = some r := by rw [if_pos rfl] at H; exact H
        clear H
        have H := H1
        clear H1
        by_cases c11 : (rdOf ByteArray.empty t212 x12_1).toList = ([46] : List UInt8)
        ·rw [if_pos c11] at H
         have c11b0 : ((rdOf ByteArray.empty t212 x12_1).toList == ([46] : List UInt8)) = true := yc.mpr c11
         have c11b1 : ((rdOf ByteArray.empty t212 x12_1).toList != ([46] : List UInt8)) = false := yf.mpr c11
         clear c11
         obtain rfl := yg H
         simp only [zH, zI] at H
         obtain ⟨rfl⟩ := H
         have p215 : 0 ≤ (x12_1 : Int) := zj (by assumption)
         have q215 : x12_1 < (t212.length : Int) := zj (by assumption)
         obtain ⟨ad215, e215, hx215_0⟩ := Kd.at_string (Kd.R_reads' HO_10.out).2.2 x12_1 p215 q215
         cases e215
         replace p215 := eq_true p215
         replace q215 := eq_true q215
         go_wp2
         go_ret
         exact ⟨by first | rfl | (simp [yl, ym] <;> rfl) | (simp [*, yl, ym] <;> rfl), by repeat (with_reducible first | exact HB.out | apply zd | apply zb | apply zc)⟩
        ·rw [if_neg c11] at H
         have c11b0 : ((rdOf ByteArray.empty t212 x12_1).toList == ([46] : List UInt8)) = false := ye.mpr c11
         have c11b1 : ((rdOf ByteArray.empty t212 x12_1).toList != ([46] : List UInt8)) = true := yd.mpr c11
         by_cases c12 : (rdOf ByteArray.empty t212 x12_1).toList = ([46, 46] : List UInt8)
         ·rw [if_pos c12] at H
          have c12b0 : ((rdOf ByteArray.empty t212 x12_1).toList == ([46, 46] : List UInt8)) = true := yc.mpr c12
          have c12b1 : ((rdOf ByteArray.empty t212 x12_1).toList != ([46, 46] : List UInt8)) = false := yf.mpr c12
          clear c12
          obtain rfl := yg H
          simp only [zH, zI] at H
          obtain ⟨rfl⟩ := H
          have p215 : 0 ≤ (x12_1 : Int) := zj (by assumption)
          have q215 : x12_1 < (t212.length : Int) := zj (by assumption)
          obtain ⟨ad215, e215, hx215_0⟩ := Kd.at_string (Kd.R_reads' HO_10.out).2.2 x12_1 p215 q215
          cases e215
          replace p215 := eq_true p215
          replace q215 := eq_true q215
          go_wp2
          go_ret
          exact ⟨by first | rfl | (simp [yl, ym] <;> rfl) | (simp [*, yl, ym] <;> rfl), by repeat (with_reducible first | exact HB.out | apply zd | apply zb | apply zc)⟩
         ·rw [if_neg c12] at H
          have c12b0 : ((rdOf ByteArray.empty t212 x12_1).toList == ([46, 46] : List UInt8)) = false := ye.mpr c12
          have c12b1 : ((rdOf ByteArray.empty t212 x12_1).toList != ([46, 46] : List UInt8)) = true := yd.mpr c12
          have H' := Aq.mk H
          clear H
          have p215 : 0 ≤ (x12_1 : Int) := zj (by assumption)
          have q215 : x12_1 < (t212.length : Int) := zj (by assumption)
          obtain ⟨ad215, e215, hx215_0⟩ := Kd.at_string (Kd.R_reads' HO_10.out).2.2 x12_1 p215 q215
          cases e215
          replace p215 := eq_true p215
          replace q215 := eq_true q215
          go_wp2
          go_roundg k1
          case measure => have := HK1.out; omega
          case rel => exact ⟨(wrap64 (x12_1 + 1)), (by first | rfl | (simp; done) | (simp [*]; done)), H', ⟨by have := HK1.out; omega⟩, ⟨by (with_reducible repeat (first | apply zC | apply zB | apply zD)); exact HO_5.out⟩, ⟨by (with_reducible repeat (first | apply zC | apply zB | apply zD)); exact HO_10.out⟩, ⟨by repeat (with_reducible first | exact HB.out | apply zd | apply zb | apply zc)⟩⟩
       ·replace c10 := Bool.eq_false_iff.mpr c10
        subst c10
        have H1 : (r2_badSegments.l0 k1 false t212 t212 (t212.length : Int) (wrap64 (x12_1 + 1))) = some r := by rw [if_neg (show ¬ (false = true) by decide)] at H; exact H
        clear H
        have H := H1
        clear H1
        have H' := Aq.mk H
        clear H
        have p215 : 0 ≤ (x12_1 : Int) := zj (by assumption)
        have q215 : x12_1 < (t212.length : Int) := zj (by assumption)
        obtain ⟨ad215, e215, hx215_0⟩ := Kd.at_string (Kd.R_reads' HO_10.out).2.2 x12_1 p215 q215
        cases e215
        replace p215 := eq_true p215
        replace q215 := eq_true q215
        go_wp2
        go_roundg k1
        case measure => have := HK1.out; omega
        case rel => exact ⟨(wrap64 (x12_1 + 1)), (by first | rfl | (simp; done) | (simp [*]; done)), H', ⟨by have := HK1.out; omega⟩, ⟨by (with_reducible repeat (first | apply zC | apply zB | apply zD)); exact HO_5.out⟩, ⟨by (with_reducible repeat (first | apply zC | apply zB | apply zD)); exact HO_10.out⟩, ⟨by repeat (with_reducible first | exact HB.out | apply zd | apply zb | apply zc)⟩⟩
     ·rw [if_neg c8] at H
      exact absurd H (by simp)
    ·rw [if_neg c7] at H
     exact absurd H (by simp)
   ·rw [if_neg c6] at H
    have c6b0 : decide (x12_1 < (t212.length : Int)) = false := zl c6
    clear c6
    obtain rfl := yg H
    simp only [zH, zI] at H
    obtain ⟨rfl⟩ := H
    go_wp2
    go_ret
    exact ⟨by first | rfl | (simp [yl, ym] <;> rfl) | (simp [*, yl, ym] <;> rfl), by repeat (with_reducible first | exact HB.out | apply zd | apply zb | apply zc)⟩
end Go.Proofs.YtmnfjbmhlabdaaaDoor.Pr
