-- Written by a program of the session (wip/pr.py) out of the translation; Lean checks it.
import Derived.Test.YtmnfjbmhlabdaaaDoorDXa
import Derived.Test.YtmnfjbmhlabdaaaDoorDEc
import Derived.Test.YtmnfjbmhlabdaaaDoorDPk2
import Derived.Test.YtmnfjbmhlabdaaaDoorDPrx0
namespace Go.Proofs.YtmnfjbmhlabdaaaDoor.Pr
open Go.RowKit Go.Proofs.YtmnfjbmhlabdaaaDoorW.PrintWords Go.Proofs.YtmnfjbmhlabdaaaDoorW.PrintLast Go.Proofs.YtmnfjbmhlabdaaaDoorW.PrintMore
attribute [local go_sem] max2_int min2_int max_two min_two max_three min_three max_four min_four
set_option linter.unusedVariables false
set_option linter.unusedSimpArgs false
attribute [local go_sem high] eqA64
def api_Pair.l0 : Nat → List (S64) → List (S64) → Int → Int → Option (Bool)
 | 0, _, _, _, _ => none
 | k + 1, x0, x1, x12, x13 => if x13 < x12 then (if 0 ≤ x13 then (if x13 < (x0.length : Int) then (if x13 < (x1.length : Int) then (if (!((((rd_T64 x0 x13).f0).toList) == (((rd_T64 x1 x13).f0).toList)) || (!((((rd_T64 x0 x13).f1).toList) == (((rd_T64 x1 x13).f1).toList)))) = true then (some false) else (api_Pair.l0 k x0 x1 x12 (wrap64 (x13 + 1)))) else (none)) else (none)) else (none)) else (some true)
def api_Pair.f (k : Nat) (l0 : List (S64)) (l1 : List (S64)) : Option (Bool) := if (l0.length : Int) = (l1.length : Int) then (api_Pair.l0 k l0 l1 (l0.length : Int) 0) else (some false)
set_option maxHeartbeats 8000000 in
set_option maxRecDepth 100000 in
theorem api_Pair.calls (k : Nat) (A0 : Option Addr) (c0 : Nat) (l0 : List (S64)) (A1 : Option Addr) (c1 : Nat) (l1 : List (S64)) (r : Bool) (w : World) (hr0 : Kd.C k64 w A0 l0.length l0) (hc0 : l0.length ≤ c0) (hr1 : Kd.C k64 w A1 l1.length l1) (hc1 : l1.length ≤ c1) (h : api_Pair.f k l0 l1 = some r) :
  Calls Tryd.prog 51 #[.slice A0 l0.length c0, .slice A1 l1.length c1] w fun e w' => e = .returned (.bool r) ∧ Drawn0 w w' := by
 have hu64 := Tryd.underlying64
 have HR0 := Aq.mk hr0
 have HC0 := Aq.mk hc0
 clear hr0 hc0
 have HR1 := Aq.mk hr1
 have HC1 := Aq.mk hc1
 clear hr1 hc1
 have H : (if (l0.length : Int) = (l1.length : Int) then (api_Pair.l0 k l0 l1 (l0.length : Int) 0) else (some false)) = some r := h
 clear h
 by_cases c3 : (l0.length : Int) = (l1.length : Int)
 ·rw [if_pos c3] at H
  have c3b0 : ((l0.length : Int) == (l1.length : Int)) = true := yc.mpr c3
  have c3b1 : ((l0.length : Int) != (l1.length : Int)) = false := yf.mpr c3
  have c3b2 : (l0.length == l1.length) = true := by first | simpa using c3 | (simp at c3 ⊢; omega)
  clear c3
  have H' := Aq.mk H
  clear H
  go_enter Tryd.func51, Tryd.ntmps51
  go_wp2
  repeat (go_quiet (fail); try go_wp2)
  go_loopg [13] k (fun kq v13 w' => ∃ (x13_1 : Int), v13 = .int .i64 x13_1 ∧ Aq (api_Pair.l0 kq l0 l1 (l0.length : Int) x13_1 = some r) ∧ Aq (kq ≤ k) ∧ Drawn0 w w')
  case atStart => exact ⟨(0), (by first | rfl | (simp; done) | (simp [*]; done)), H', ⟨Nat.le_refl _⟩, by repeat (first | exact zN _ | apply zO)⟩
  case round =>
   clear H'
   try clear c1
   try clear p2
   try clear c3
   try clear c3b0
   try clear c3b1
   try clear c3b2
   obtain ⟨x13_1, rfl, HA, HK1, ⟨m1, rfl⟩⟩ := hrel
   cases gk with
   | zero => exact absurd HA.out (by simp [api_Pair.l0])
   | succ k1 =>
    have H := HA.out
    clear HA
    simp only [api_Pair.l0] at H
    by_cases c4 : x13_1 < (l0.length : Int)
    ·rw [if_pos c4] at H
     have c4b0 : decide (x13_1 < (l0.length : Int)) = true := zk c4
     clear c4
     by_cases c5 : 0 ≤ x13_1
     ·rw [if_pos c5] at H
      have c5b0 : decide (0 ≤ x13_1) = true := zk c5
      clear c5
      by_cases c6 : x13_1 < (l0.length : Int)
      ·rw [if_pos c6] at H
       have c6b0 : decide (x13_1 < (l0.length : Int)) = true := zk c6
       clear c6
       by_cases c7 : x13_1 < (l1.length : Int)
       ·rw [if_pos c7] at H
        have c7b0 : decide (x13_1 < (l1.length : Int)) = true := zk c7
        clear c7
        by_cases c8 : (!((((rd_T64 l0 x13_1).f0).toList) == (((rd_T64 l1 x13_1).f0).toList)) || (!((((rd_T64 l0 x13_1).f1).toList) == (((rd_T64 l1 x13_1).f1).toList)))) = true
        ·rw [if_pos c8] at H
         have c8b0 : (!((((rd_T64 l0 x13_1).f0).toList) == (((rd_T64 l1 x13_1).f0).toList)) || (!((((rd_T64 l0 x13_1).f1).toList) == (((rd_T64 l1 x13_1).f1).toList)))) = true := c8
         clear c8
         obtain rfl := yg H
         simp only [zH, zI] at H
         obtain ⟨rfl⟩ := H
         have p101 : 0 ≤ (x13_1 : Int) := zj (by assumption)
         have q101 : x13_1 < (l0.length : Int) := zj (by assumption)
         obtain ⟨ad101, e101, hx101_0, hx101_1⟩ := at_T64 HR0.out x13_1 p101 q101
         cases e101
         replace p101 := eq_true p101
         replace q101 := eq_true q101
         have p102 : 0 ≤ (x13_1 : Int) := zj (by assumption)
         have q102 : x13_1 < (l1.length : Int) := zj (by assumption)
         obtain ⟨ad102, e102, hx102_0, hx102_1⟩ := at_T64 HR1.out x13_1 p102 q102
         cases e102
         replace p102 := eq_true p102
         replace q102 := eq_true q102
         go_wp2
         repeat (go_quiet (fail); try go_wp2)
         go_ret
         exact ⟨by first | rfl | (simp; done) | (simp [*]; done), by repeat (first | exact zN _ | apply zO)⟩
        ·rw [if_neg c8] at H
         have c8b0 : (!((((rd_T64 l0 x13_1).f0).toList) == (((rd_T64 l1 x13_1).f0).toList)) || (!((((rd_T64 l0 x13_1).f1).toList) == (((rd_T64 l1 x13_1).f1).toList)))) = false := by simpa using c8
         clear c8
         have H' := Aq.mk H
         clear H
         have p101 : 0 ≤ (x13_1 : Int) := zj (by assumption)
         have q101 : x13_1 < (l0.length : Int) := zj (by assumption)
         obtain ⟨ad101, e101, hx101_0, hx101_1⟩ := at_T64 HR0.out x13_1 p101 q101
         cases e101
         replace p101 := eq_true p101
         replace q101 := eq_true q101
         have p102 : 0 ≤ (x13_1 : Int) := zj (by assumption)
         have q102 : x13_1 < (l1.length : Int) := zj (by assumption)
         obtain ⟨ad102, e102, hx102_0, hx102_1⟩ := at_T64 HR1.out x13_1 p102 q102
         cases e102
         replace p102 := eq_true p102
         replace q102 := eq_true q102
         go_wp2
         repeat (go_quiet (fail); try go_wp2)
         go_roundg k1
         case measure => have := HK1.out; omega
         case rel => exact ⟨(wrap64 (x13_1 + 1)), (by first | rfl | (simp; done) | (simp [*]; done)), H', ⟨by have := HK1.out; omega⟩, by repeat (first | exact zN _ | apply zO)⟩
       ·rw [if_neg c7] at H
        exact absurd H (by simp)
      ·rw [if_neg c6] at H
       exact absurd H (by simp)
     ·rw [if_neg c5] at H
      exact absurd H (by simp)
    ·rw [if_neg c4] at H
     have c4b0 : decide (x13_1 < (l0.length : Int)) = false := zl c4
     clear c4
     obtain rfl := yg H
     simp only [zH, zI] at H
     obtain ⟨rfl⟩ := H
     go_wp2
     repeat (go_quiet (fail); try go_wp2)
     go_ret
     exact ⟨by first | rfl | (simp; done) | (simp [*]; done), by repeat (first | exact zN _ | apply zO)⟩
 ·rw [if_neg c3] at H
  have c3b0 : ((l0.length : Int) == (l1.length : Int)) = false := ye.mpr c3
  have c3b1 : ((l0.length : Int) != (l1.length : Int)) = true := yd.mpr c3
  have c3b2 : (l0.length == l1.length) = false := by first | simpa using c3 | (simp at c3 ⊢; omega)
  obtain rfl := yg H
  simp only [zH, zI] at H
  obtain ⟨rfl⟩ := H
  go_enter Tryd.func51, Tryd.ntmps51
  go_wp2
  repeat (go_quiet (fail); try go_wp2)
  go_ret
  exact ⟨by first | rfl | (simp; done) | (simp [*]; done), by repeat (first | exact zN _ | apply zO)⟩
def l2_same.f (k : Nat) (a0_0 : ByteArray) (a0_1 : ByteArray) (a0_2 : ByteArray) (a0_3 : ByteArray) (l0_4 : List (S64)) (a0_5 : ByteArray) (a1_0 : ByteArray) (a1_1 : ByteArray) (a1_2 : ByteArray) (a1_3 : ByteArray) (l1_4 : List (S64)) (a1_5 : ByteArray) : Option (Bool) := if a0_0.toList = a1_0.toList then (if a0_1.toList = a1_1.toList then (if a0_2.toList = a1_2.toList then (if a0_3.toList = a1_3.toList then (if a0_5.toList = a1_5.toList then ((api_Pair.f k l0_4 l1_4).bind fun t105 => (some t105)) else (some false)) else (some false)) else (some false)) else (some false)) else (some false)
set_option maxHeartbeats 8000000 in
set_option maxRecDepth 100000 in
theorem l2_same.calls (k : Nat) (a0_0 : ByteArray) (a0_1 : ByteArray) (a0_2 : ByteArray) (a0_3 : ByteArray) (A0_4 : Option Addr) (c0_4 : Nat) (l0_4 : List (S64)) (a0_5 : ByteArray) (a1_0 : ByteArray) (a1_1 : ByteArray) (a1_2 : ByteArray) (a1_3 : ByteArray) (A1_4 : Option Addr) (c1_4 : Nat) (l1_4 : List (S64)) (a1_5 : ByteArray) (r : Bool) (w : World) (hr0_4 : Kd.C k64 w A0_4 l0_4.length l0_4) (hc0_4 : l0_4.length ≤ c0_4) (hr1_4 : Kd.C k64 w A1_4 l1_4.length l1_4) (hc1_4 : l1_4.length ≤ c1_4) (h : l2_same.f k a0_0 a0_1 a0_2 a0_3 l0_4 a0_5 a1_0 a1_1 a1_2 a1_3 l1_4 a1_5 = some r) :
  Calls Tryd.prog 12 #[.agg #[.string a0_0, .string a0_1, .string a0_2, .string a0_3, .slice A0_4 l0_4.length c0_4, .string a0_5], .agg #[.string a1_0, .string a1_1, .string a1_2, .string a1_3, .slice A1_4 l1_4.length c1_4, .string a1_5]] w fun e w' => e = .returned (.bool r) ∧ Below w.heap.size w w' := by
 have hu24 := Tryd.underlying24
 have HR0_4 := Aq.mk hr0_4
 have HC0_4 := Aq.mk hc0_4
 clear hr0_4 hc0_4
 have HR1_4 := Aq.mk hr1_4
 have HC1_4 := Aq.mk hc1_4
 clear hr1_4 hc1_4
 have HB := Aq.mk (Below.refl w.heap.size w)
 have H : (if a0_0.toList = a1_0.toList then (if a0_1.toList = a1_1.toList then (if a0_2.toList = a1_2.toList then (if a0_3.toList = a1_3.toList then (if a0_5.toList = a1_5.toList then ((api_Pair.f k l0_4 l1_4).bind fun t105 => (some t105)) else (some false)) else (some false)) else (some false)) else (some false)) else (some false)) = some r := h
 clear h
 by_cases c3 : a0_0.toList = a1_0.toList
 ·rw [if_pos c3] at H
  have c3b0 : (a0_0.toList == a1_0.toList) = true := yc.mpr c3
  have c3b1 : (a0_0.toList != a1_0.toList) = false := yf.mpr c3
  clear c3
  by_cases c4 : a0_1.toList = a1_1.toList
  ·rw [if_pos c4] at H
   have c4b0 : (a0_1.toList == a1_1.toList) = true := yc.mpr c4
   have c4b1 : (a0_1.toList != a1_1.toList) = false := yf.mpr c4
   clear c4
   by_cases c5 : a0_2.toList = a1_2.toList
   ·rw [if_pos c5] at H
    have c5b0 : (a0_2.toList == a1_2.toList) = true := yc.mpr c5
    have c5b1 : (a0_2.toList != a1_2.toList) = false := yf.mpr c5
    clear c5
    by_cases c6 : a0_3.toList = a1_3.toList
    ·rw [if_pos c6] at H
     have c6b0 : (a0_3.toList == a1_3.toList) = true := yc.mpr c6
     have c6b1 : (a0_3.toList != a1_3.toList) = false := yf.mpr c6
     clear c6
     by_cases c7 : a0_5.toList = a1_5.toList
     ·rw [if_pos c7] at H
      have c7b0 : (a0_5.toList == a1_5.toList) = true := yc.mpr c7
      have c7b1 : (a0_5.toList != a1_5.toList) = false := yf.mpr c7
      clear c7
      replace H := zu.mp H
      obtain ⟨t105, A80, H⟩ := H
      replace H : (some t105) = some r := H
      have A8 := Aq.mk A80
      clear A80
      obtain rfl := yg H
      simp only [zH, zI] at H
      obtain ⟨rfl⟩ := H
      go_enter Tryd.func12, Tryd.ntmps12
      go_wp2_with (first | ((with_reducible refine gate_dst (N := 2) rfl ?_); refine box_event ?hg (N := 2) ?hd (cs := #[.string a0_0, .string a0_1, .string a0_2, .string a0_3, .slice A0_4 l0_4.length c0_4, .string a0_5]) (t := 24) ?hr ?_; (case hd => rfl); (case hg => rfl); (case hr => first | (go_simp; done) | (go_simp; rfl)); intro gb103 hg w9 hbox hb; have n0_ := Aq.mk (zv (by repeat (with_reducible first | exact HB.out | apply zd | apply zb | apply zc)) hb); have n1_ := Aq.mk (hbox); have n2_ := Aq.mk ((by rw [hg]; exact (zz (by repeat (with_reducible first | exact HB.out | apply zd | apply zb | apply zc))) : w.heap.size ≤ gb103)); have n3_ := Aq.mk ((by rw [hg]; exact (zz (by repeat (with_reducible first | exact HB.out | apply zd | apply zb | apply zc))) : w.heap.size ≤ gb103)); clear HB; have HB := n0_; have BK103 := n1_; have GW103 := n2_; have GE103 := n3_; clear n0_ n1_ n2_ n3_; clear hb hbox hg) | ((with_reducible refine gate_dst (N := 3) rfl ?_); refine box_event ?hg (N := 3) ?hd (cs := #[.string a1_0, .string a1_1, .string a1_2, .string a1_3, .slice A1_4 l1_4.length c1_4, .string a1_5]) (t := 24) ?hr ?_; (case hd => rfl); (case hg => rfl); (case hr => first | (go_simp; done) | (go_simp; rfl)); intro gb104 hg w10 hbox hb; have n0_ := Aq.mk (zw (g := gb103) (o := .cells #[.string a0_0, .string a0_1, .string a0_2, .string a0_3, .slice A0_4 l0_4.length c0_4, .string a0_5] 24 (0, 0)) (by (with_reducible repeat (first | refine zg ?_ _ | refine zi ?_ | refine zh ?_ _)); exact BK103.out) hb); have n1_ := Aq.mk (zv (by repeat (with_reducible first | exact HB.out | apply zd | apply zb | apply zc | refine zf ?_ GE103.out)) hb); have n2_ := Aq.mk (hbox); have n3_ := Aq.mk ((by rw [hg]; exact (zz (by repeat (with_reducible first | exact HB.out | apply zd | apply zb | apply zc | refine zf ?_ GE103.out))) : w.heap.size ≤ gb104)); have n4_ := Aq.mk ((by rw [hg]; exact (zz (by repeat (with_reducible first | exact HB.out | apply zd | apply zb | apply zc | refine zf ?_ GE103.out))) : w.heap.size ≤ gb104)); have n5_ := Aq.mk ((by rw [hg]; exact Nat.ne_of_lt (zA (g := gb103) (o := .cells #[.string a0_0, .string a0_1, .string a0_2, .string a0_3, .slice A0_4 l0_4.length c0_4, .string a0_5] 24 (0, 0)) (by (with_reducible repeat (first | refine zg ?_ _ | refine zi ?_ | refine zh ?_ _)); exact BK103.out)) : gb103 ≠ gb104)); have n6_ := Aq.mk ((by rw [hg]; exact Nat.ne_of_gt (zA (g := gb103) (o := .cells #[.string a0_0, .string a0_1, .string a0_2, .string a0_3, .slice A0_4 l0_4.length c0_4, .string a0_5] 24 (0, 0)) (by (with_reducible repeat (first | refine zg ?_ _ | refine zi ?_ | refine zh ?_ _)); exact BK103.out)) : gb104 ≠ gb103)); clear BK103; clear HB; have BK103 := n0_; have HB := n1_; have BK104 := n2_; have GW104 := n3_; have GE104 := n4_; have NB103_104 := n5_; have NB104_103 := n6_; clear n0_ n1_ n2_ n3_ n4_ n5_ n6_; clear hb hbox hg; have hnb11 := NB103_104.out; have hnc11 := NB104_103.out; have hcz12_0 : w10.cell? ⟨gb103, 0, none⟩ = some (.string a0_0) := (ze BK103.out 0).trans rfl; have hcz12_1 : w10.cell? ⟨gb103, 1, none⟩ = some (.string a0_1) := (ze BK103.out 1).trans rfl; have hcz12_2 : w10.cell? ⟨gb103, 2, none⟩ = some (.string a0_2) := (ze BK103.out 2).trans rfl; have hcz12_3 : w10.cell? ⟨gb103, 3, none⟩ = some (.string a0_3) := (ze BK103.out 3).trans rfl; have hcz12_4 : w10.cell? ⟨gb103, 4, none⟩ = some (.slice A0_4 l0_4.length c0_4) := (ze BK103.out 4).trans rfl; have hcz12_5 : w10.cell? ⟨gb103, 5, none⟩ = some (.string a0_5) := (ze BK103.out 5).trans rfl; have hfz12_0 := za BK103.out 0; have hfz12_1 := za BK103.out 1; have hfz12_2 := za BK103.out 2; have hfz12_3 := za BK103.out 3; have hfz12_4 := za BK103.out 4; have hfz12_5 := za BK103.out 5; have hcz13_0 : w10.cell? ⟨gb104, 0, none⟩ = some (.string a1_0) := (ze BK104.out 0).trans rfl; have hcz13_1 : w10.cell? ⟨gb104, 1, none⟩ = some (.string a1_1) := (ze BK104.out 1).trans rfl; have hcz13_2 : w10.cell? ⟨gb104, 2, none⟩ = some (.string a1_2) := (ze BK104.out 2).trans rfl; have hcz13_3 : w10.cell? ⟨gb104, 3, none⟩ = some (.string a1_3) := (ze BK104.out 3).trans rfl; have hcz13_4 : w10.cell? ⟨gb104, 4, none⟩ = some (.slice A1_4 l1_4.length c1_4) := (ze BK104.out 4).trans rfl; have hcz13_5 : w10.cell? ⟨gb104, 5, none⟩ = some (.string a1_5) := (ze BK104.out 5).trans rfl; have hfz13_0 := za BK104.out 0; have hfz13_1 := za BK104.out 1; have hfz13_2 := za BK104.out 2; have hfz13_3 := za BK104.out 3; have hfz13_4 := za BK104.out 4; have hfz13_5 := za BK104.out 5) | (go_at_call 51; (with_reducible refine (api_Pair.calls k _ _ l0_4 _ _ l1_4 t105 _ ?side1 ?side2 ?side3 ?side4 A8.out).mono ?_); (case side1 => repeat (first | exact (Kd.C_below HR0_4.out HB.out) | (with_reducible refine zF ?_ _) | (with_reducible refine zE ?_ _) | (with_reducible refine zG ?_))); (case side2 => exact HC0_4.out); (case side3 => repeat (first | exact (Kd.C_below HR1_4.out HB.out) | (with_reducible refine zF ?_ _) | (with_reducible refine zE ?_ _) | (with_reducible refine zG ?_))); (case side4 => exact HC1_4.out); rintro e w' ⟨rfl, ⟨nd, rfl⟩⟩))
      go_ret
      exact ⟨by first | rfl | (simp [yl, ym] <;> rfl) | (simp [*, yl, ym] <;> rfl), by repeat (with_reducible first | exact HB.out | apply zd | apply zb | apply zc | refine zf ?_ GE103.out | refine zf ?_ GE104.out)⟩
     ·rw [if_neg c7] at H
      have c7b0 : (a0_5.toList == a1_5.toList) = false := ye.mpr c7
      have c7b1 : (a0_5.toList != a1_5.toList) = true := yd.mpr c7
      obtain rfl := yg H
      simp only [zH, zI] at H
      obtain ⟨rfl⟩ := H
      go_enter Tryd.func12, Tryd.ntmps12
      go_wp2_with (first | ((with_reducible refine gate_dst (N := 2) rfl ?_); refine box_event ?hg (N := 2) ?hd (cs := #[.string a0_0, .string a0_1, .string a0_2, .string a0_3, .slice A0_4 l0_4.length c0_4, .string a0_5]) (t := 24) ?hr ?_; (case hd => rfl); (case hg => rfl); (case hr => first | (go_simp; done) | (go_simp; rfl)); intro gb103 hg w14 hbox hb; have n0_ := Aq.mk (zv (by repeat (with_reducible first | exact HB.out | apply zd | apply zb | apply zc)) hb); have n1_ := Aq.mk (hbox); have n2_ := Aq.mk ((by rw [hg]; exact (zz (by repeat (with_reducible first | exact HB.out | apply zd | apply zb | apply zc))) : w.heap.size ≤ gb103)); have n3_ := Aq.mk ((by rw [hg]; exact (zz (by repeat (with_reducible first | exact HB.out | apply zd | apply zb | apply zc))) : w.heap.size ≤ gb103)); clear HB; have HB := n0_; have BK103 := n1_; have GW103 := n2_; have GE103 := n3_; clear n0_ n1_ n2_ n3_; clear hb hbox hg) | ((with_reducible refine gate_dst (N := 3) rfl ?_); refine box_event ?hg (N := 3) ?hd (cs := #[.string a1_0, .string a1_1, .string a1_2, .string a1_3, .slice A1_4 l1_4.length c1_4, .string a1_5]) (t := 24) ?hr ?_; (case hd => rfl); (case hg => rfl); (case hr => first | (go_simp; done) | (go_simp; rfl)); intro gb104 hg w15 hbox hb; have n0_ := Aq.mk (zw (g := gb103) (o := .cells #[.string a0_0, .string a0_1, .string a0_2, .string a0_3, .slice A0_4 l0_4.length c0_4, .string a0_5] 24 (0, 0)) (by (with_reducible repeat (first | refine zg ?_ _ | refine zi ?_ | refine zh ?_ _)); exact BK103.out) hb); have n1_ := Aq.mk (zv (by repeat (with_reducible first | exact HB.out | apply zd | apply zb | apply zc | refine zf ?_ GE103.out)) hb); have n2_ := Aq.mk (hbox); have n3_ := Aq.mk ((by rw [hg]; exact (zz (by repeat (with_reducible first | exact HB.out | apply zd | apply zb | apply zc | refine zf ?_ GE103.out))) : w.heap.size ≤ gb104)); have n4_ := Aq.mk ((by rw [hg]; exact (zz (by repeat (with_reducible first | exact HB.out | apply zd | apply zb | apply zc | refine zf ?_ GE103.out))) : w.heap.size ≤ gb104)); have n5_ := Aq.mk ((by rw [hg]; exact Nat.ne_of_lt (zA (g := gb103) (o := .cells #[.string a0_0, .string a0_1, .string a0_2, .string a0_3, .slice A0_4 l0_4.length c0_4, .string a0_5] 24 (0, 0)) (by (with_reducible repeat (first | refine zg ?_ _ | refine zi ?_ | refine zh ?_ _)); exact BK103.out)) : gb103 ≠ gb104)); have n6_ := Aq.mk ((by rw [hg]; exact Nat.ne_of_gt (zA (g := gb103) (o := .cells #[.string a0_0, .string a0_1, .string a0_2, .string a0_3, .slice A0_4 l0_4.length c0_4, .string a0_5] 24 (0, 0)) (by (with_reducible repeat (first | refine zg ?_ _ | refine zi ?_ | refine zh ?_ _)); exact BK103.out)) : gb104 ≠ gb103)); clear BK103; clear HB; have BK103 := n0_; have HB := n1_; have BK104 := n2_; have GW104 := n3_; have GE104 := n4_; have NB103_104 := n5_; have NB104_103 := n6_; clear n0_ n1_ n2_ n3_ n4_ n5_ n6_; clear hb hbox hg; have hnb16 := NB103_104.out; have hnc16 := NB104_103.out; have hcz17_0 : w15.cell? ⟨gb103, 0, none⟩ = some (.string a0_0) := (ze BK103.out 0).trans rfl; have hcz17_1 : w15.cell? ⟨gb103, 1, none⟩ = some (.string a0_1) := (ze BK103.out 1).trans rfl; have hcz17_2 : w15.cell? ⟨gb103, 2, none⟩ = some (.string a0_2) := (ze BK103.out 2).trans rfl; have hcz17_3 : w15.cell? ⟨gb103, 3, none⟩ = some (.string a0_3) := (ze BK103.out 3).trans rfl; have hcz17_4 : w15.cell? ⟨gb103, 4, none⟩ = some (.slice A0_4 l0_4.length c0_4) := (ze BK103.out 4).trans rfl; have hcz17_5 : w15.cell? ⟨gb103, 5, none⟩ = some (.string a0_5) := (ze BK103.out 5).trans rfl; have hfz17_0 := za BK103.out 0; have hfz17_1 := za BK103.out 1; have hfz17_2 := za BK103.out 2; have hfz17_3 := za BK103.out 3; have hfz17_4 := za BK103.out 4; have hfz17_5 := za BK103.out 5; have hcz18_0 : w15.cell? ⟨gb104, 0, none⟩ = some (.string a1_0) := (ze BK104.out 0).trans rfl; have hcz18_1 : w15.cell? ⟨gb104, 1, none⟩ = some (.string a1_1) := (ze BK104.out 1).trans rfl; have hcz18_2 : w15.cell? ⟨gb104, 2, none⟩ = some (.string a1_2) := (ze BK104.out 2).trans rfl; have hcz18_3 : w15.cell? ⟨gb104, 3, none⟩ = some (.string a1_3) := (ze BK104.out 3).trans rfl; have hcz18_4 : w15.cell? ⟨gb104, 4, none⟩ = some (.slice A1_4 l1_4.length c1_4) := (ze BK104.out 4).trans rfl; have hcz18_5 : w15.cell? ⟨gb104, 5, none⟩ = some (.string a1_5) := (ze BK104.out 5).trans rfl; have hfz18_0 := za BK104.out 0; have hfz18_1 := za BK104.out 1; have hfz18_2 := za BK104.out 2; have hfz18_3 := za BK104.out 3; have hfz18_4 := za BK104.out 4; have hfz18_5 := za BK104.out 5))
      go_ret
      exact ⟨by first | rfl | (simp [yl, ym] <;> rfl) | (simp [*, yl, ym] <;> rfl), by repeat (with_reducible first | exact HB.out | apply zd | apply zb | apply zc | refine zf ?_ GE103.out | refine zf ?_ GE104.out)⟩
    ·rw [if_neg c6] at H
     have c6b0 : (a0_3.toList == a1_3.toList) = false := ye.mpr c6
     have c6b1 : (a0_3.toList != a1_3.toList) = true := yd.mpr c6
     obtain rfl := yg H
     simp only [zH, zI] at H
     obtain ⟨rfl⟩ := H
     go_enter Tryd.func12, Tryd.ntmps12
     go_wp2_with (first | ((with_reducible refine gate_dst (N := 2) rfl ?_); refine box_event ?hg (N := 2) ?hd (cs := #[.string a0_0, .string a0_1, .string a0_2, .string a0_3, .slice A0_4 l0_4.length c0_4, .string a0_5]) (t := 24) ?hr ?_; (case hd => rfl); (case hg => rfl); (case hr => first | (go_simp; done) | (go_simp; rfl)); intro gb103 hg w19 hbox hb; have n0_ := Aq.mk (zv (by repeat (with_reducible first | exact HB.out | apply zd | apply zb | apply zc)) hb); have n1_ := Aq.mk (hbox); have n2_ := Aq.mk ((by rw [hg]; exact (zz (by repeat (with_reducible first | exact HB.out | apply zd | apply zb | apply zc))) : w.heap.size ≤ gb103)); have n3_ := Aq.mk ((by rw [hg]; exact (zz (by repeat (with_reducible first | exact HB.out | apply zd | apply zb | apply zc))) : w.heap.size ≤ gb103)); clear HB; have HB := n0_; have BK103 := n1_; have GW103 := n2_; have GE103 := n3_; clear n0_ n1_ n2_ n3_; clear hb hbox hg) | ((with_reducible refine gate_dst (N := 3) rfl ?_); refine box_event ?hg (N := 3) ?hd (cs := #[.string a1_0, .string a1_1, .string a1_2, .string a1_3, .slice A1_4 l1_4.length c1_4, .string a1_5]) (t := 24) ?hr ?_; (case hd => rfl); (case hg => rfl); (case hr => first | (go_simp; done) | (go_simp; rfl)); intro gb104 hg w20 hbox hb; have n0_ := Aq.mk (zw (g := gb103) (o := .cells #[.string a0_0, .string a0_1, .string a0_2, .string a0_3, .slice A0_4 l0_4.length c0_4, .string a0_5] 24 (0, 0)) (by (with_reducible repeat (first | refine zg ?_ _ | refine zi ?_ | refine zh ?_ _)); exact BK103.out) hb); have n1_ := Aq.mk (zv (by repeat (with_reducible first | exact HB.out | apply zd | apply zb | apply zc | refine zf ?_ GE103.out)) hb); have n2_ := Aq.mk (hbox); have n3_ := Aq.mk ((by rw [hg]; exact (zz (by repeat (with_reducible first | exact HB.out | apply zd | apply zb | apply zc | refine zf ?_ GE103.out))) : w.heap.size ≤ gb104)); have n4_ := Aq.mk ((by rw [hg]; exact (zz (by repeat (with_reducible first | exact HB.out | apply zd | apply zb | apply zc | refine zf ?_ GE103.out))) : w.heap.size ≤ gb104)); have n5_ := Aq.mk ((by rw [hg]; exact Nat.ne_of_lt (zA (g := gb103) (o := .cells #[.string a0_0, .string a0_1, .string a0_2, .string a0_3, .slice A0_4 l0_4.length c0_4, .string a0_5] 24 (0, 0)) (by (with_reducible repeat (first | refine zg ?_ _ | refine zi ?_ | refine zh ?_ _)); exact BK103.out)) : gb103 ≠ gb104)); have n6_ := Aq.mk ((by rw [hg]; exact Nat.ne_of_gt (zA (g := gb103) (o := .cells #[.string a0_0, .string a0_1, .string a0_2, .string a0_3, .slice A0_4 l0_4.length c0_4, .string a0_5] 24 (0, 0)) (by (with_reducible repeat (first | refine zg ?_ _ | refine zi ?_ | refine zh ?_ _)); exact BK103.out)) : gb104 ≠ gb103)); clear BK103; clear HB; have BK103 := n0_; have HB := n1_; have BK104 := n2_; have GW104 := n3_; have GE104 := n4_; have NB103_104 := n5_; have NB104_103 := n6_; clear n0_ n1_ n2_ n3_ n4_ n5_ n6_; clear hb hbox hg; have hnb21 := NB103_104.out; have hnc21 := NB104_103.out; have hcz22_0 : w20.cell? ⟨gb103, 0, none⟩ = some (.string a0_0) := (ze BK103.out 0).trans rfl; have hcz22_1 : w20.cell? ⟨gb103, 1, none⟩ = some (.string a0_1) := (ze BK103.out 1).trans rfl; have hcz22_2 : w20.cell? ⟨gb103, 2, none⟩ = some (.string a0_2) := (ze BK103.out 2).trans rfl; have hcz22_3 : w20.cell? ⟨gb103, 3, none⟩ = some (.string a0_3) := (ze BK103.out 3).trans rfl; have hcz22_4 : w20.cell? ⟨gb103, 4, none⟩ = some (.slice A0_4 l0_4.length c0_4) := (ze BK103.out 4).trans rfl; have hcz22_5 : w20.cell? ⟨gb103, 5, none⟩ = some (.string a0_5) := (ze BK103.out 5).trans rfl; have hfz22_0 := za BK103.out 0; have hfz22_1 := za BK103.out 1; have hfz22_2 := za BK103.out 2; have hfz22_3 := za BK103.out 3; have hfz22_4 := za BK103.out 4; have hfz22_5 := za BK103.out 5; have hcz23_0 : w20.cell? ⟨gb104, 0, none⟩ = some (.string a1_0) := (ze BK104.out 0).trans rfl; have hcz23_1 : w20.cell? ⟨gb104, 1, none⟩ = some (.string a1_1) := (ze BK104.out 1).trans rfl; have hcz23_2 : w20.cell? ⟨gb104, 2, none⟩ = some (.string a1_2) := (ze BK104.out 2).trans rfl; have hcz23_3 : w20.cell? ⟨gb104, 3, none⟩ = some (.string a1_3) := (ze BK104.out 3).trans rfl; have hcz23_4 : w20.cell? ⟨gb104, 4, none⟩ = some (.slice A1_4 l1_4.length c1_4) := (ze BK104.out 4).trans rfl; have hcz23_5 : w20.cell? ⟨gb104, 5, none⟩ = some (.string a1_5) := (ze BK104.out 5).trans rfl; have hfz23_0 := za BK104.out 0; have hfz23_1 := za BK104.out 1; have hfz23_2 := za BK104.out 2; have hfz23_3 := za BK104.out 3; have hfz23_4 := za BK104.out 4; have hfz23_5 := za BK104.out 5))
     go_ret
     exact ⟨by first | rfl | (simp [yl, ym] <;> rfl) | (simp [*, yl, ym] <;> rfl), by repeat (with_reducible first | exact HB.out | apply zd | apply zb | apply zc | refine zf ?_ GE103.out | refine zf ?_ GE104.out)⟩
   ·rw [if_neg c5] at H
    have c5b0 : (a0_2.toList == a1_2.toList) = false := ye.mpr c5
    have c5b1 : (a0_2.toList != a1_2.toList) = true := yd.mpr c5
    obtain rfl := yg H
    simp only [zH, zI] at H
    obtain ⟨rfl⟩ := H
    go_enter Tryd.func12, Tryd.ntmps12
    go_wp2_with (first | ((with_reducible refine gate_dst (N := 2) rfl ?_); refine box_event ?hg (N := 2) ?hd (cs := #[.string a0_0, .string a0_1, .string a0_2, .string a0_3, .slice A0_4 l0_4.length c0_4, .string a0_5]) (t := 24) ?hr ?_; (case hd => rfl); (case hg => rfl); (case hr => first | (go_simp; done) | (go_simp; rfl)); intro gb103 hg w24 hbox hb; have n0_ := Aq.mk (zv (by repeat (with_reducible first | exact HB.out | apply zd | apply zb | apply zc)) hb); have n1_ := Aq.mk (hbox); have n2_ := Aq.mk ((by rw [hg]; exact (zz (by repeat (with_reducible first | exact HB.out | apply zd | apply zb | apply zc))) : w.heap.size ≤ gb103)); have n3_ := Aq.mk ((by rw [hg]; exact (zz (by repeat (with_reducible first | exact HB.out | apply zd | apply zb | apply zc))) : w.heap.size ≤ gb103)); clear HB; have HB := n0_; have BK103 := n1_; have GW103 := n2_; have GE103 := n3_; clear n0_ n1_ n2_ n3_; clear hb hbox hg) | ((with_reducible refine gate_dst (N := 3) rfl ?_); refine box_event ?hg (N := 3) ?hd (cs := #[.string a1_0, .string a1_1, .string a1_2, .string a1_3, .slice A1_4 l1_4.length c1_4, .string a1_5]) (t := 24) ?hr ?_; (case hd => rfl); (case hg => rfl); (case hr => first | (go_simp; done) | (go_simp; rfl)); intro gb104 hg w25 hbox hb; have n0_ := Aq.mk (zw (g := gb103) (o := .cells #[.string a0_0, .string a0_1, .string a0_2, .string a0_3, .slice A0_4 l0_4.length c0_4, .string a0_5] 24 (0, 0)) (by (with_reducible repeat (first | refine zg ?_ _ | refine zi ?_ | refine zh ?_ _)); exact BK103.out) hb); have n1_ := Aq.mk (zv (by repeat (with_reducible first | exact HB.out | apply zd | apply zb | apply zc | refine zf ?_ GE103.out)) hb); have n2_ := Aq.mk (hbox); have n3_ := Aq.mk ((by rw [hg]; exact (zz (by repeat (with_reducible first | exact HB.out | apply zd | apply zb | apply zc | refine zf ?_ GE103.out))) : w.heap.size ≤ gb104)); have n4_ := Aq.mk ((by rw [hg]; exact (zz (by repeat (with_reducible first | exact HB.out | apply zd | apply zb | apply zc | refine zf ?_ GE103.out))) : w.heap.size ≤ gb104)); have n5_ := Aq.mk ((by rw [hg]; exact Nat.ne_of_lt (zA (g := gb103) (o := .cells #[.string a0_0, .string a0_1, .string a0_2, .string a0_3, .slice A0_4 l0_4.length c0_4, .string a0_5] 24 (0, 0)) (by (with_reducible repeat (first | refine zg ?_ _ | refine zi ?_ | refine zh ?_ _)); exact BK103.out)) : gb103 ≠ gb104)); have n6_ := Aq.mk ((by rw [hg]; exact Nat.ne_of_gt (zA (g := gb103) (o := .cells #[.string a0_0, .string a0_1, .string a0_2, .string a0_3, .slice A0_4 l0_4.length c0_4, .string a0_5] 24 (0, 0)) (by (with_reducible repeat (first | refine zg ?_ _ | refine zi ?_ | refine zh ?_ _)); exact BK103.out)) : gb104 ≠ gb103)); clear BK103; clear HB; have BK103 := n0_; have HB := n1_; have BK104 := n2_; have GW104 := n3_; have GE104 := n4_; have NB103_104 := n5_; have NB104_103 := n6_; clear n0_ n1_ n2_ n3_ n4_ n5_ n6_; clear hb hbox hg; have hnb26 := NB103_104.out; have hnc26 := NB104_103.out; have hcz27_0 : w25.cell? ⟨gb103, 0, none⟩ = some (.string a0_0) := (ze BK103.out 0).trans rfl; have hcz27_1 : w25.cell? ⟨gb103, 1, none⟩ = some (.string a0_1) := (ze BK103.out 1).trans rfl; have hcz27_2 : w25.cell? ⟨gb103, 2, none⟩ = some (.string a0_2) := (ze BK103.out 2).trans rfl; have hcz27_3 : w25.cell? ⟨gb103, 3, none⟩ = some (.string a0_3) := (ze BK103.out 3).trans rfl; have hcz27_4 : w25.cell? ⟨gb103, 4, none⟩ = some (.slice A0_4 l0_4.length c0_4) := (ze BK103.out 4).trans rfl; have hcz27_5 : w25.cell? ⟨gb103, 5, none⟩ = some (.string a0_5) := (ze BK103.out 5).trans rfl; have hfz27_0 := za BK103.out 0; have hfz27_1 := za BK103.out 1; have hfz27_2 := za BK103.out 2; have hfz27_3 := za BK103.out 3; have hfz27_4 := za BK103.out 4; have hfz27_5 := za BK103.out 5; have hcz28_0 : w25.cell? ⟨gb104, 0, none⟩ = some (.string a1_0) := (ze BK104.out 0).trans rfl; have hcz28_1 : w25.cell? ⟨gb104, 1, none⟩ = some (.string a1_1) := (ze BK104.out 1).trans rfl; have hcz28_2 : w25.cell? ⟨gb104, 2, none⟩ = some (.string a1_2) := (ze BK104.out 2).trans rfl; have hcz28_3 : w25.cell? ⟨gb104, 3, none⟩ = some (.string a1_3) := (ze BK104.out 3).trans rfl; have hcz28_4 : w25.cell? ⟨gb104, 4, none⟩ = some (.slice A1_4 l1_4.length c1_4) := (ze BK104.out 4).trans rfl; have hcz28_5 : w25.cell? ⟨gb104, 5, none⟩ = some (.string a1_5) := (ze BK104.out 5).trans rfl; have hfz28_0 := za BK104.out 0; have hfz28_1 := za BK104.out 1; have hfz28_2 := za BK104.out 2; have hfz28_3 := za BK104.out 3; have hfz28_4 := za BK104.out 4; have hfz28_5 := za BK104.out 5))
    go_ret
    exact ⟨by first | rfl | (simp [yl, ym] <;> rfl) | (simp [*, yl, ym] <;> rfl), by repeat (with_reducible first | exact HB.out | apply zd | apply zb | apply zc | refine zf ?_ GE103.out | refine zf ?_ GE104.out)⟩
  ·rw [if_neg c4] at H
   have c4b0 : (a0_1.toList == a1_1.toList) = false := ye.mpr c4
   have c4b1 : (a0_1.toList != a1_1.toList) = true := yd.mpr c4
   obtain rfl := yg H
   simp only [zH, zI] at H
   obtain ⟨rfl⟩ := H
   go_enter Tryd.func12, Tryd.ntmps12
   go_wp2_with (first | ((with_reducible refine gate_dst (N := 2) rfl ?_); refine box_event ?hg (N := 2) ?hd (cs := #[.string a0_0, .string a0_1, .string a0_2, .string a0_3, .slice A0_4 l0_4.length c0_4, .string a0_5]) (t := 24) ?hr ?_; (case hd => rfl); (case hg => rfl); (case hr => first | (go_simp; done) | (go_simp; rfl)); intro gb103 hg w29 hbox hb; have n0_ := Aq.mk (zv (by repeat (with_reducible first | exact HB.out | apply zd | apply zb | apply zc)) hb); have n1_ := Aq.mk (hbox); have n2_ := Aq.mk ((by rw [hg]; exact (zz (by repeat (with_reducible first | exact HB.out | apply zd | apply zb | apply zc))) : w.heap.size ≤ gb103)); have n3_ := Aq.mk ((by rw [hg]; exact (zz (by repeat (with_reducible first | exact HB.out | apply zd | apply zb | apply zc))) : w.heap.size ≤ gb103)); clear HB; have HB := n0_; have BK103 := n1_; have GW103 := n2_; have GE103 := n3_; clear n0_ n1_ n2_ n3_; clear hb hbox hg) | ((with_reducible refine gate_dst (N := 3) rfl ?_); refine box_event ?hg (N := 3) ?hd (cs := #[.string a1_0, .string a1_1, .string a1_2, .string a1_3, .slice A1_4 l1_4.length c1_4, .string a1_5]) (t := 24) ?hr ?_; (case hd => rfl); (case hg => rfl); (case hr => first | (go_simp; done) | (go_simp; rfl)); intro gb104 hg w30 hbox hb; have n0_ := Aq.mk (zw (g := gb103) (o := .cells #[.string a0_0, .string a0_1, .string a0_2, .string a0_3, .slice A0_4 l0_4.length c0_4, .string a0_5] 24 (0, 0)) (by (with_reducible repeat (first | refine zg ?_ _ | refine zi ?_ | refine zh ?_ _)); exact BK103.out) hb); have n1_ := Aq.mk (zv (by repeat (with_reducible first | exact HB.out | apply zd | apply zb | apply zc | refine zf ?_ GE103.out)) hb); have n2_ := Aq.mk (hbox); have n3_ := Aq.mk ((by rw [hg]; exact (zz (by repeat (with_reducible first | exact HB.out | apply zd | apply zb | apply zc | refine zf ?_ GE103.out))) : w.heap.size ≤ gb104)); have n4_ := Aq.mk ((by rw [hg]; exact (zz (by repeat (with_reducible first | exact HB.out | apply zd | apply zb | apply zc | refine zf ?_ GE103.out))) : w.heap.size ≤ gb104)); have n5_ := Aq.mk ((by rw [hg]; exact Nat.ne_of_lt (zA (g := gb103) (o := .cells #[.string a0_0, .string a0_1, .string a0_2, .string a0_3, .slice A0_4 l0_4.length c0_4, .string a0_5] 24 (0, 0)) (by (with_reducible repeat (first | refine zg ?_ _ | refine zi ?_ | refine zh ?_ _)); exact BK103.out)) : gb103 ≠ gb104)); have n6_ := Aq.mk ((by rw [hg]; exact Nat.ne_of_gt (zA (g := gb103) (o := .cells #[.string a0_0, .string a0_1, .string a0_2, .string a0_3, .slice A0_4 l0_4.length c0_4, .string a0_5] 24 (0, 0)) (by (with_reducible repeat (first | refine zg ?_ _ | refine zi ?_ | refine zh ?_ _)); exact BK103.out)) : gb104 ≠ gb103)); clear BK103; clear HB; have BK103 := n0_; have HB := n1_; have BK104 := n2_; have GW104 := n3_; have GE104 := n4_; have NB103_104 := n5_; have NB104_103 := n6_; clear n0_ n1_ n2_ n3_ n4_ n5_ n6_; clear hb hbox hg; have hnb31 := NB103_104.out; have hnc31 := NB104_103.out; have hcz32_0 : w30.cell? ⟨gb103, 0, none⟩ = some (.string a0_0) := (ze BK103.out 0).trans rfl; have hcz32_1 : w30.cell? ⟨gb103, 1, none⟩ = some (.string a0_1) := (ze BK103.out 1).trans rfl; have hcz32_2 : w30.cell? ⟨gb103, 2, none⟩ = some (.string a0_2) := (ze BK103.out 2).trans rfl; have hcz32_3 : w30.cell? ⟨gb103, 3, none⟩ = some (.string a0_3) := (ze BK103.out 3).trans rfl; have hcz32_4 : w30.cell? ⟨gb103, 4, none⟩ = some (.slice A0_4 l0_4.length c0_4) := (ze BK103.out 4).trans rfl; have hcz32_5 : w30.cell? ⟨gb103, 5, none⟩ = some (.string a0_5) := (ze BK103.out 5).trans rfl; have hfz32_0 := za BK103.out 0; have hfz32_1 := za BK103.out 1; have hfz32_2 := za BK103.out 2; have hfz32_3 := za BK103.out 3; have hfz32_4 := za BK103.out 4; have hfz32_5 := za BK103.out 5; have hcz33_0 : w30.cell? ⟨gb104, 0, none⟩ = some (.string a1_0) := (ze BK104.out 0).trans rfl; have hcz33_1 : w30.cell? ⟨gb104, 1, none⟩ = some (.string a1_1) := (ze BK104.out 1).trans rfl; have hcz33_2 : w30.cell? ⟨gb104, 2, none⟩ = some (.string a1_2) := (ze BK104.out 2).trans rfl; have hcz33_3 : w30.cell? ⟨gb104, 3, none⟩ = some (.string a1_3) := (ze BK104.out 3).trans rfl; have hcz33_4 : w30.cell? ⟨gb104, 4, none⟩ = some (.slice A1_4 l1_4.length c1_4) := (ze BK104.out 4).trans rfl; have hcz33_5 : w30.cell? ⟨gb104, 5, none⟩ = some (.string a1_5) := (ze BK104.out 5).trans rfl; have hfz33_0 := za BK104.out 0; have hfz33_1 := za BK104.out 1; have hfz33_2 := za BK104.out 2; have hfz33_3 := za BK104.out 3; have hfz33_4 := za BK104.out 4; have hfz33_5 := za BK104.out 5))
   go_ret
   exact ⟨by first | rfl | (simp [yl, ym] <;> rfl) | (simp [*, yl, ym] <;> rfl), by repeat (with_reducible first | exact HB.out | apply zd | apply zb | apply zc | refine zf ?_ GE103.out | refine zf ?_ GE104.out)⟩
 ·rw [if_neg c3] at H
  have c3b0 : (a0_0.toList == a1_0.toList) = false := ye.mpr c3
  have c3b1 : (a0_0.toList != a1_0.toList) = true := yd.mpr c3
  obtain rfl := yg H
  simp only [zH, zI] at H
  obtain ⟨rfl⟩ := H
  go_enter Tryd.func12, Tryd.ntmps12
  go_wp2_with (first | ((with_reducible refine gate_dst (N := 2) rfl ?_); refine box_event ?hg (N := 2) ?hd (cs := #[.string a0_0, .string a0_1, .string a0_2, .string a0_3, .slice A0_4 l0_4.length c0_4, .string a0_5]) (t := 24) ?hr ?_; (case hd => rfl); (case hg => rfl); (case hr => first | (go_simp; done) | (go_simp; rfl)); intro gb103 hg w34 hbox hb; have n0_ := Aq.mk (zv (by repeat (with_reducible first | exact HB.out | apply zd | apply zb | apply zc)) hb); have n1_ := Aq.mk (hbox); have n2_ := Aq.mk ((by rw [hg]; exact (zz (by repeat (with_reducible first | exact HB.out | apply zd | apply zb | apply zc))) : w.heap.size ≤ gb103)); have n3_ := Aq.mk ((by rw [hg]; exact (zz (by repeat (with_reducible first | exact HB.out | apply zd | apply zb | apply zc))) : w.heap.size ≤ gb103)); clear HB; have HB := n0_; have BK103 := n1_; have GW103 := n2_; have GE103 := n3_; clear n0_ n1_ n2_ n3_; clear hb hbox hg) | ((with_reducible refine gate_dst (N := 3) rfl ?_); refine box_event ?hg (N := 3) ?hd (cs := #[.string a1_0, .string a1_1, .string a1_2, .string a1_3, .slice A1_4 l1_4.length c1_4, .string a1_5]) (t := 24) ?hr ?_; (case hd => rfl); (case hg => rfl); (case hr => first | (go_simp; done) | (go_simp; rfl)); intro gb104 hg w35 hbox hb; have n0_ := Aq.mk (zw (g := gb103) (o := .cells #[.string a0_0, .string a0_1, .string a0_2, .string a0_3, .slice A0_4 l0_4.length c0_4, .string a0_5] 24 (0, 0)) (by (with_reducible repeat (first | refine zg ?_ _ | refine zi ?_ | refine zh ?_ _)); exact BK103.out) hb); have n1_ := Aq.mk (zv (by repeat (with_reducible first | exact HB.out | apply zd | apply zb | apply zc | refine zf ?_ GE103.out)) hb); have n2_ := Aq.mk (hbox); have n3_ := Aq.mk ((by rw [hg]; exact (zz (by repeat (with_reducible first | exact HB.out | apply zd | apply zb | apply zc | refine zf ?_ GE103.out))) : w.heap.size ≤ gb104)); have n4_ := Aq.mk ((by rw [hg]; exact (zz (by repeat (with_reducible first | exact HB.out | apply zd | apply zb | apply zc | refine zf ?_ GE103.out))) : w.heap.size ≤ gb104)); have n5_ := Aq.mk ((by rw [hg]; exact Nat.ne_of_lt (zA (g := gb103) (o := .cells #[.string a0_0, .string a0_1, .string a0_2, .string a0_3, .slice A0_4 l0_4.length c0_4, .string a0_5] 24 (0, 0)) (by (with_reducible repeat (first | refine zg ?_ _ | refine zi ?_ | refine zh ?_ _)); exact BK103.out)) : gb103 ≠ gb104)); have n6_ := Aq.mk ((by rw [hg]; exact Nat.ne_of_gt (zA (g := gb103) (o := .cells #[.string a0_0, .string a0_1, .string a0_2, .string a0_3, .slice A0_4 l0_4.length c0_4, .string a0_5] 24 (0, 0)) (by (with_reducible repeat (first | refine zg ?_ _ | refine zi ?_ | refine zh ?_ _)); exact BK103.out)) : gb104 ≠ gb103)); clear BK103; clear HB; have BK103 := n0_; have HB := n1_; have BK104 := n2_; have GW104 := n3_; have GE104 := n4_; have NB103_104 := n5_; have NB104_103 := n6_; clear n0_ n1_ n2_ n3_ n4_ n5_ n6_; clear hb hbox hg; have hnb36 := NB103_104.out; have hnc36 := NB104_103.out; have hcz37_0 : w35.cell? ⟨gb103, 0, none⟩ = some (.string a0_0) := (ze BK103.out 0).trans rfl; have hcz37_1 : w35.cell? ⟨gb103, 1, none⟩ = some (.string a0_1) := (ze BK103.out 1).trans rfl; have hcz37_2 : w35.cell? ⟨gb103, 2, none⟩ = some (.string a0_2) := (ze BK103.out 2).trans rfl; have hcz37_3 : w35.cell? ⟨gb103, 3, none⟩ = some (.string a0_3) := (ze BK103.out 3).trans rfl; have hcz37_4 : w35.cell? ⟨gb103, 4, none⟩ = some (.slice A0_4 l0_4.length c0_4) := (ze BK103.out 4).trans rfl; have hcz37_5 : w35.cell? ⟨gb103, 5, none⟩ = some (.string a0_5) := (ze BK103.out 5).trans rfl; have hfz37_0 := za BK103.out 0; have hfz37_1 := za BK103.out 1; have hfz37_2 := za BK103.out 2; have hfz37_3 := za BK103.out 3; have hfz37_4 := za BK103.out 4; have hfz37_5 := za BK103.out 5; have hcz38_0 : w35.cell? ⟨gb104, 0, none⟩ = some (.string a1_0) := (ze BK104.out 0).trans rfl; have hcz38_1 : w35.cell? ⟨gb104, 1, none⟩ = some (.string a1_1) := (ze BK104.out 1).trans rfl; have hcz38_2 : w35.cell? ⟨gb104, 2, none⟩ = some (.string a1_2) := (ze BK104.out 2).trans rfl; have hcz38_3 : w35.cell? ⟨gb104, 3, none⟩ = some (.string a1_3) := (ze BK104.out 3).trans rfl; have hcz38_4 : w35.cell? ⟨gb104, 4, none⟩ = some (.slice A1_4 l1_4.length c1_4) := (ze BK104.out 4).trans rfl; have hcz38_5 : w35.cell? ⟨gb104, 5, none⟩ = some (.string a1_5) := (ze BK104.out 5).trans rfl; have hfz38_0 := za BK104.out 0; have hfz38_1 := za BK104.out 1; have hfz38_2 := za BK104.out 2; have hfz38_3 := za BK104.out 3; have hfz38_4 := za BK104.out 4; have hfz38_5 := za BK104.out 5))
  go_ret
  exact ⟨by first | rfl | (simp [yl, ym] <;> rfl) | (simp [*, yl, ym] <;> rfl), by repeat (with_reducible first | exact HB.out | apply zd | apply zb | apply zc | refine zf ?_ GE103.out | refine zf ?_ GE104.out)⟩
end Go.Proofs.YtmnfjbmhlabdaaaDoor.Pr
