-- Printed by wip/pr.py.
import Derived.Test.YtmnfjbmhlabdaaaDoorCXa
import Derived.Test.YtmnfjbmhlabdaaaDoorCEu
import Derived.Test.YtmnfjbmhlabdaaaDoorCPk8
import Derived.Test.YtmnfjbmhlabdaaaDoorCPm10
import Derived.Test.YtmnfjbmhlabdaaaDoorCPm2
import Derived.Test.YtmnfjbmhlabdaaaDoorCPm7
import Derived.Test.YtmnfjbmhlabdaaaDoorCPrx0
import Derived.Test.YtmnfjbmhlabdaaaDoorCPrx10
import Derived.Test.YtmnfjbmhlabdaaaDoorCPrx3
namespace Go.Proofs.YtmnfjbmhlabdaaaDoor.Pr
open RowKit YtmnfjbmhlabdaaaDoorW.PrintWords YtmnfjbmhlabdaaaDoorW.PrintLast YtmnfjbmhlabdaaaDoorW.PrintMore
attribute [local go_sem] max2_int min2_int max_two min_two max_three min_three max_four min_four
set_option linter.unusedVariables false
set_option linter.unusedSimpArgs false
def l2_C.f (k : Nat) (a0_0 : ByteArray) (a0_1 : ByteArray) (a0_2 : ByteArray) (a0_3 : ByteArray) (l0_4 : List (S64)) (a0_5 : ByteArray) : Option (Bool) := (r2_Canonical.f k a0_0 a0_1 a0_2 a0_3 l0_4 a0_5).bind fun bt282 => ((purl_Canonical.f k a0_0 a0_1 a0_2 a0_3 l0_4 a0_5).bind fun bt292 => ((r2_Print.f k a0_0 a0_1 a0_2 a0_3 l0_4 a0_5).bind fun bt302 => ((purl_Print.f k a0_0 a0_1 a0_2 a0_3 l0_4 a0_5).bind fun bt304 => ((r2_Key.f k a0_0 a0_1 a0_2 a0_3 l0_4 a0_5).bind fun bt306 => ((purl_Key.f k a0_0 a0_1 a0_2 a0_3 l0_4 a0_5).bind fun bt308 => ((r2_Check.f k a0_0 a0_1 a0_2 a0_3 l0_4 a0_5).bind fun t310 => ((purl_Check.f k a0_0 a0_1 a0_2 a0_3 l0_4 a0_5).bind fun t311 => (if t310 = t311 then ((l2_same.f k bt292.1 bt292.2.1 bt292.2.2.1 bt292.2.2.2.1 bt292.2.2.2.2.1 bt292.2.2.2.2.2.1 bt282.1 bt282.2.1 bt282.2.2.1 bt282.2.2.2.1 bt282.2.2.2.2.1 bt282.2.2.2.2.2.1).bind fun t312 => (if t312 = true then (if bt292.2.2.2.2.2.2 = bt282.2.2.2.2.2.2 then (if bt304.1.toList = bt302.1.toList then (if bt304.2 = bt302.2 then (if bt308.1.toList = bt306.1.toList then (if bt308.2 = bt306.2 then ((l2_told.f k).bind fun t313 => (some t313)) else (some false)) else (some false)) else (some false)) else (some false)) else (some false)) else (some false))) else (some false)))))))))
def l2_C.T7 : Bool × List (List Nat × List Nat) := (true, [([], []), ([0], [0]), ([], []), ([2, 1], [2]), ([1, 3], [1, 3]), ([4, 3], [4]), ([5], [5]), ([5], [5]), ([6, 7, 5, 5], [5, 6, 7]), ([5, 8], [5, 8]), ([9, 8], [9]), ([10], [10]), ([10], [10]), ([11, 12, 10], [10, 11, 12]), ([10, 13], [10, 13]), ([14, 10], [14]), ([15], [15]), ([15], [15]), ([16, 17, 15], [15, 16, 17]), ([15, 18], [15, 18]), ([19, 15], [19]), ([20], [20]), ([20], [20]), ([21, 22, 20], [20, 21, 22]), ([20, 23], [20, 23]), ([24, 20], [24]), ([25], [25]), ([25], [25]), ([26, 27, 25], [25, 26, 27]), ([25, 28], [25, 28]), ([29, 25], [29]), ([30], [30]), ([30], [30]), ([31, 32, 30], [30, 31, 32]), ([30, 33], [30, 33]), ([34, 30], [34]), ([35, 35], [35]), ([35, 36], [35, 36]), ([37, 36, 0, 1, 2, 3, 4, 5, 6, 7, 8, 9, 10, 11, 12, 13, 14, 15, 16, 17, 18, 19, 20, 21, 22, 23, 24, 25, 26, 27, 28, 29, 30, 31, 32, 33, 34, 35, 36, 37], [37])])
def l2_C.B7 : List Nat := [0, 1, 0, 7, 15, 31, 63, 63, 255, 511, 1023, 2047, 2047, 8191, 16383, 32767, 65535, 65535, 262143, 524287, 1048575, 2097151, 2097151, 8388607, 16777215, 33554431, 67108863, 67108863, 268435455, 536870911, 1073741823, 2147483647, 2147483647, 8589934591, 17179869183, 34359738367, 68719476735, 137438953471, 274877906943]
theorem l2_C.tab7 : rtab .any (opsOf Tryd.f6 7) = l2_C.T7 := by kernel_rfl
theorem l2_C.bits7 : waitsOk l2_C.T7.2 l2_C.B7 = true := by kernel_rfl
set_option maxHeartbeats 8000000 in
set_option maxRecDepth 100000 in
theorem l2_C.calls (k : Nat) (a0_0 : ByteArray) (a0_1 : ByteArray) (a0_2 : ByteArray) (a0_3 : ByteArray) (A0_4 : Option Addr) (c0_4 : Nat) (l0_4 : List (S64)) (a0_5 : ByteArray) (r : Bool) (w : World) (hr0_4 : Kd.C k64 w A0_4 l0_4.length l0_4) (hc0_4 : l0_4.length ≤ c0_4) (h : l2_C.f k a0_0 a0_1 a0_2 a0_3 l0_4 a0_5 = some r) (hrt : Aq (r = true)) :
  Calls Tryd.prog 6 #[.agg #[.string a0_0, .string a0_1, .string a0_2, .string a0_3, .slice A0_4 l0_4.length c0_4, .string a0_5]] w fun e w' => e = .returned (.bool r) ∧ Below w.heap.size w w' := by
 have hu24 := Tryd.underlying24
 have HR0_4 := Aq.mk hr0_4
 have HC0_4 := Aq.mk hc0_4
 clear hr0_4 hc0_4
 have HB := Aq.mk (Below.refl w.heap.size w)
 have H : ((r2_Canonical.f k a0_0 a0_1 a0_2 a0_3 l0_4 a0_5).bind fun bt282 => ((purl_Canonical.f k a0_0 a0_1 a0_2 a0_3 l0_4 a0_5).bind fun bt292 => ((r2_Print.f k a0_0 a0_1 a0_2 a0_3 l0_4 a0_5).bind fun bt302 => ((purl_Print.f k a0_0 a0_1 a0_2 a0_3 l0_4 a0_5).bind fun bt304 => ((r2_Key.f k a0_0 a0_1 a0_2 a0_3 l0_4 a0_5).bind fun bt306 => ((purl_Key.f k a0_0 a0_1 a0_2 a0_3 l0_4 a0_5).bind fun bt308 => ((r2_Check.f k a0_0 a0_1 a0_2 a0_3 l0_4 a0_5).bind fun t310 => ((purl_Check.f k a0_0 a0_1 a0_2 a0_3 l0_4 a0_5).bind fun t311 => (if t310 = t311 then ((l2_same.f k bt292.1 bt292.2.1 bt292.2.2.1 bt292.2.2.2.1 bt292.2.2.2.2.1 bt292.2.2.2.2.2.1 bt282.1 bt282.2.1 bt282.2.2.1 bt282.2.2.2.1 bt282.2.2.2.2.1 bt282.2.2.2.2.2.1).bind fun t312 => (if t312 = true then (if bt292.2.2.2.2.2.2 = bt282.2.2.2.2.2.2 then (if bt304.1.toList = bt302.1.toList then (if bt304.2 = bt302.2 then (if bt308.1.toList = bt306.1.toList then (if bt308.2 = bt306.2 then ((l2_told.f k).bind fun t313 => (some t313)) else (some false)) else (some false)) else (some false)) else (some false)) else (some false)) else (some false))) else (some false)))))))))) = some r := h
 clear h
 replace H := zu.mp H
 obtain ⟨⟨t282, t283, t284, t285, t286, t289, t290⟩, A20, H⟩ := H
 replace H : ((purl_Canonical.f k a0_0 a0_1 a0_2 a0_3 l0_4 a0_5).bind fun bt292 => ((r2_Print.f k a0_0 a0_1 a0_2 a0_3 l0_4 a0_5).bind fun bt302 => ((purl_Print.f k a0_0 a0_1 a0_2 a0_3 l0_4 a0_5).bind fun bt304 => ((r2_Key.f k a0_0 a0_1 a0_2 a0_3 l0_4 a0_5).bind fun bt306 => ((purl_Key.f k a0_0 a0_1 a0_2 a0_3 l0_4 a0_5).bind fun bt308 => ((r2_Check.f k a0_0 a0_1 a0_2 a0_3 l0_4 a0_5).bind fun t310 => ((purl_Check.f k a0_0 a0_1 a0_2 a0_3 l0_4 a0_5).bind fun t311 => (if t310 = t311 then ((l2_same.f k bt292.1 bt292.2.1 bt292.2.2.1 bt292.2.2.2.1 bt292.2.2.2.2.1 bt292.2.2.2.2.2.1 t282 t283 t284 t285 t286 t289).bind fun t312 => (if t312 = true then (if bt292.2.2.2.2.2.2 = t290 then (if bt304.1.toList = bt302.1.toList then (if bt304.2 = bt302.2 then (if bt308.1.toList = bt306.1.toList then (if bt308.2 = bt306.2 then ((l2_told.f k).bind fun t313 => (some t313)) else (some false)) else (some false)) else (some false)) else (some false)) else (some false)) else (some false))) else (some false))))))))) = some r := H
 have A2 := Aq.mk A20
 clear A20
 replace H := zu.mp H
 obtain ⟨⟨t292, t293, t294, t295, t296, t299, t300⟩, A30, H⟩ := H
 replace H : ((r2_Print.f k a0_0 a0_1 a0_2 a0_3 l0_4 a0_5).bind fun bt302 => ((purl_Print.f k a0_0 a0_1 a0_2 a0_3 l0_4 a0_5).bind fun bt304 => ((r2_Key.f k a0_0 a0_1 a0_2 a0_3 l0_4 a0_5).bind fun bt306 => ((purl_Key.f k a0_0 a0_1 a0_2 a0_3 l0_4 a0_5).bind fun bt308 => ((r2_Check.f k a0_0 a0_1 a0_2 a0_3 l0_4 a0_5).bind fun t310 => ((purl_Check.f k a0_0 a0_1 a0_2 a0_3 l0_4 a0_5).bind fun t311 => (if t310 = t311 then ((l2_same.f k t292 t293 t294 t295 t296 t299 t282 t283 t284 t285 t286 t289).bind fun t312 => (if t312 = true then (if t300 = t290 then (if bt304.1.toList = bt302.1.toList then (if bt304.2 = bt302.2 then (if bt308.1.toList = bt306.1.toList then (if bt308.2 = bt306.2 then ((l2_told.f k).bind fun t313 => (some t313)) else (some false)) else (some false)) else (some false)) else (some false)) else (some false)) else (some false))) else (some false)))))))) = some r := H
 have A3 := Aq.mk A30
 clear A30
 replace H := zu.mp H
 obtain ⟨⟨t302, t303⟩, A40, H⟩ := H
 replace H : ((purl_Print.f k a0_0 a0_1 a0_2 a0_3 l0_4 a0_5).bind fun bt304 => ((r2_Key.f k a0_0 a0_1 a0_2 a0_3 l0_4 a0_5).bind fun bt306 => ((purl_Key.f k a0_0 a0_1 a0_2 a0_3 l0_4 a0_5).bind fun bt308 => ((r2_Check.f k a0_0 a0_1 a0_2 a0_3 l0_4 a0_5).bind fun t310 => ((purl_Check.f k a0_0 a0_1 a0_2 a0_3 l0_4 a0_5).bind fun t311 => (if t310 = t311 then ((l2_same.f k t292 t293 t294 t295 t296 t299 t282 t283 t284 t285 t286 t289).bind fun t312 => (if t312 = true then (if t300 = t290 then (if bt304.1.toList = t302.toList then (if bt304.2 = t303 then (if bt308.1.toList = bt306.1.toList then (if bt308.2 = bt306.2 then ((l2_told.f k).bind fun t313 => (some t313)) else (some false)) else (some false)) else (some false)) else (some false)) else (some false)) else (some false))) else (some false))))))) = some r := H
 have A4 := Aq.mk A40
 clear A40
 replace H := zu.mp H
 obtain ⟨⟨t304, t305⟩, A50, H⟩ := H
 replace H : ((r2_Key.f k a0_0 a0_1 a0_2 a0_3 l0_4 a0_5).bind fun bt306 => ((purl_Key.f k a0_0 a0_1 a0_2 a0_3 l0_4 a0_5).bind fun bt308 => ((r2_Check.f k a0_0 a0_1 a0_2 a0_3 l0_4 a0_5).bind fun t310 => ((purl_Check.f k a0_0 a0_1 a0_2 a0_3 l0_4 a0_5).bind fun t311 => (if t310 = t311 then ((l2_same.f k t292 t293 t294 t295 t296 t299 t282 t283 t284 t285 t286 t289).bind fun t312 => (if t312 = true then (if t300 = t290 then (if t304.toList = t302.toList then (if t305 = t303 then (if bt308.1.toList = bt306.1.toList then (if bt308.2 = bt306.2 then ((l2_told.f k).bind fun t313 => (some t313)) else (some false)) else (some false)) else (some false)) else (some false)) else (some false)) else (some false))) else (some false)))))) = some r := H
 have A5 := Aq.mk A50
 clear A50
 replace H := zu.mp H
 obtain ⟨⟨t306, t307⟩, A60, H⟩ := H
 replace H : ((purl_Key.f k a0_0 a0_1 a0_2 a0_3 l0_4 a0_5).bind fun bt308 => ((r2_Check.f k a0_0 a0_1 a0_2 a0_3 l0_4 a0_5).bind fun t310 => ((purl_Check.f k a0_0 a0_1 a0_2 a0_3 l0_4 a0_5).bind fun t311 => (if t310 = t311 then ((l2_same.f k t292 t293 t294 t295 t296 t299 t282 t283 t284 t285 t286 t289).bind fun t312 => (if t312 = true then (if t300 = t290 then (if t304.toList = t302.toList then (if t305 = t303 then (if bt308.1.toList = t306.toList then (if bt308.2 = t307 then ((l2_told.f k).bind fun t313 => (some t313)) else (some false)) else (some false)) else (some false)) else (some false)) else (some false)) else (some false))) else (some false))))) = some r := H
 have A6 := Aq.mk A60
 clear A60
 replace H := zu.mp H
 obtain ⟨⟨t308, t309⟩, A70, H⟩ := H
 replace H : ((r2_Check.f k a0_0 a0_1 a0_2 a0_3 l0_4 a0_5).bind fun t310 => ((purl_Check.f k a0_0 a0_1 a0_2 a0_3 l0_4 a0_5).bind fun t311 => (if t310 = t311 then ((l2_same.f k t292 t293 t294 t295 t296 t299 t282 t283 t284 t285 t286 t289).bind fun t312 => (if t312 = true then (if t300 = t290 then (if t304.toList = t302.toList then (if t305 = t303 then (if t308.toList = t306.toList then (if t309 = t307 then ((l2_told.f k).bind fun t313 => (some t313)) else (some false)) else (some false)) else (some false)) else (some false)) else (some false)) else (some false))) else (some false)))) = some r := H
 have A7 := Aq.mk A70
 clear A70
 replace H := zu.mp H
 obtain ⟨t310, A80, H⟩ := H
 replace H : ((purl_Check.f k a0_0 a0_1 a0_2 a0_3 l0_4 a0_5).bind fun t311 => (if t310 = t311 then ((l2_same.f k t292 t293 t294 t295 t296 t299 t282 t283 t284 t285 t286 t289).bind fun t312 => (if t312 = true then (if t300 = t290 then (if t304.toList = t302.toList then (if t305 = t303 then (if t308.toList = t306.toList then (if t309 = t307 then ((l2_told.f k).bind fun t313 => (some t313)) else (some false)) else (some false)) else (some false)) else (some false)) else (some false)) else (some false))) else (some false))) = some r := H
 have A8 := Aq.mk A80
 clear A80
 replace H := zu.mp H
 obtain ⟨t311, A90, H⟩ := H
 replace H : (if t310 = t311 then ((l2_same.f k t292 t293 t294 t295 t296 t299 t282 t283 t284 t285 t286 t289).bind fun t312 => (if t312 = true then (if t300 = t290 then (if t304.toList = t302.toList then (if t305 = t303 then (if t308.toList = t306.toList then (if t309 = t307 then ((l2_told.f k).bind fun t313 => (some t313)) else (some false)) else (some false)) else (some false)) else (some false)) else (some false)) else (some false))) else (some false)) = some r := H
 have A9 := Aq.mk A90
 clear A90
 by_cases c10 : t310 = t311
 ·rw [if_pos c10] at H
  have c10b0 : (t310 == t311) = true := yc.mpr c10
  have c10b1 : (t310 != t311) = false := yf.mpr c10
  clear c10
  replace H := zu.mp H
  obtain ⟨t312, A110, H⟩ := H
  replace H : (if t312 = true then (if t300 = t290 then (if t304.toList = t302.toList then (if t305 = t303 then (if t308.toList = t306.toList then (if t309 = t307 then ((l2_told.f k).bind fun t313 => (some t313)) else (some false)) else (some false)) else (some false)) else (some false)) else (some false)) else (some false)) = some r := H
  have A11 := Aq.mk A110
  clear A110
  by_cases c12 : t312 = true
  ·subst c12
   have H1 : (if t300 = t290 then (if t304.toList = t302.toList then (if t305 = t303 then (if t308.toList = t306.toList then (if t309 = t307 then ((l2_told.f k).bind fun t313 => (some t313)) else (some false)) else (some false)) else (some false)) else (some false)) else (some false)) = some r := by rw [if_pos rfl] at H; exact H
   clear H
   have H := H1
   clear H1
   by_cases c13 : t300 = t290
   ·rw [if_pos c13] at H
    have c13b0 : (t300 == t290) = true := yc.mpr c13
    have c13b1 : (t300 != t290) = false := yf.mpr c13
    clear c13
    by_cases c14 : t304.toList = t302.toList
    ·rw [if_pos c14] at H
     have c14b0 : (t304.toList == t302.toList) = true := yc.mpr c14
     have c14b1 : (t304.toList != t302.toList) = false := yf.mpr c14
     clear c14
     by_cases c15 : t305 = t303
     ·rw [if_pos c15] at H
      have c15b0 : (t305 == t303) = true := yc.mpr c15
      have c15b1 : (t305 != t303) = false := yf.mpr c15
      clear c15
      by_cases c16 : t308.toList = t306.toList
      ·rw [if_pos c16] at H
       have c16b0 : (t308.toList == t306.toList) = true := yc.mpr c16
       have c16b1 : (t308.toList != t306.toList) = false := yf.mpr c16
       clear c16
       by_cases c17 : t309 = t307
       ·rw [if_pos c17] at H
        have c17b0 : (t309 == t307) = true := yc.mpr c17
        have c17b1 : (t309 != t307) = false := yf.mpr c17
        clear c17
        replace H := zu.mp H
        obtain ⟨t313, A180, H⟩ := H
        replace H : (some t313) = some r := H
        have A18 := Aq.mk A180
        clear A180
        obtain rfl := yg H
        simp only [zH, zI] at H
        obtain ⟨rfl⟩ := H
        go_enter Tryd.func6, Tryd.ntmps6
        try go_wp2_with (first | ((with_reducible refine gate_dst (N := 1) rfl ?_); refine box_event ?hg (N := 1) ?hd (cs := #[.string a0_0, .string a0_1, .string a0_2, .string a0_3, .slice A0_4 l0_4.length c0_4, .string a0_5]) (t := 24) ?hr ?_; (case hd => rfl); (case hg => rfl); (case hr => first | (go_simp; done) | (go_simp; rfl)); intro gb281 hg w19 hbox hb; have n0_ := Aq.mk (zv (by repeat (with_reducible first | exact HB.out | apply zd | apply zb | apply zc)) hb); have n1_ := Aq.mk (hbox); have n2_ := Aq.mk ((by rw [hg]; exact (zz (by repeat (with_reducible first | exact HB.out | apply zd | apply zb | apply zc))) : w.heap.size ≤ gb281)); have n3_ := Aq.mk ((by rw [hg]; exact (zz (by repeat (with_reducible first | exact HB.out | apply zd | apply zb | apply zc))) : w.heap.size ≤ gb281)); clear HB; have HB := n0_; have BK281 := n1_; have GW281 := n2_; have GE281 := n3_; clear n0_ n1_ n2_ n3_; clear hb hbox hg; have hcz20_0 : w19.cell? ⟨gb281, 0, none⟩ = some (.string a0_0) := (ze BK281.out 0).trans rfl; have hcz20_1 : w19.cell? ⟨gb281, 1, none⟩ = some (.string a0_1) := (ze BK281.out 1).trans rfl; have hcz20_2 : w19.cell? ⟨gb281, 2, none⟩ = some (.string a0_2) := (ze BK281.out 2).trans rfl; have hcz20_3 : w19.cell? ⟨gb281, 3, none⟩ = some (.string a0_3) := (ze BK281.out 3).trans rfl; have hcz20_4 : w19.cell? ⟨gb281, 4, none⟩ = some (.slice A0_4 l0_4.length c0_4) := (ze BK281.out 4).trans rfl; have hcz20_5 : w19.cell? ⟨gb281, 5, none⟩ = some (.string a0_5) := (ze BK281.out 5).trans rfl; have hfz20_0 := za BK281.out 0; have hfz20_1 := za BK281.out 1; have hfz20_2 := za BK281.out 2; have hfz20_3 := za BK281.out 3; have hfz20_4 := za BK281.out 4; have hfz20_5 := za BK281.out 5) | ((with_reducible refine gate_callee (f := 15) rfl ?_); refine goesL_ (some 17) rfl rfl Tryd.func15 (by kernel_rfl) rfl #[.agg #[.string a0_0, .string a0_1, .string a0_2, .string a0_3, .slice A0_4 l0_4.length c0_4, .string a0_5]] rfl (by (try simp only [zP, zQ, zR]); first | done | rfl | (simp only [zS, zT]; rfl)) ?_; (with_reducible refine (r2_Canonical.calls k a0_0 a0_1 a0_2 a0_3 _ _ l0_4 a0_5 t282 t283 t284 t285 t286 t289 t290 _ ?side1 ?side2 A2.out).mono ?_); (case side1 => repeat (first | exact (Kd.C_below HR0_4.out HB.out) | (with_reducible refine zF ?_ _) | (with_reducible refine zE ?_ _) | (with_reducible refine zG ?_))); (case side2 => exact HC0_4.out); rintro e w21 ⟨v287, rfl, ho0, hb⟩; refine ⟨_, rfl, ?_⟩; have n0_ := Aq.mk (zX ho0 (zz (by repeat (with_reducible first | exact HB.out | apply zd | apply zb | apply zc | refine zf ?_ GE281.out)))); have n1_ := Aq.mk (zw (g := gb281) (o := .cells #[.string a0_0, .string a0_1, .string a0_2, .string a0_3, .slice A0_4 l0_4.length c0_4, .string a0_5] 24 (0, 0)) (by (with_reducible repeat (first | refine zg ?_ _ | refine zi ?_ | refine zh ?_ _)); exact BK281.out) hb); have n2_ := Aq.mk (zv (by repeat (with_reducible first | exact HB.out | apply zd | apply zb | apply zc | refine zf ?_ GE281.out)) hb); clear BK281; clear HB; have HO288 := n0_; have BK281 := n1_; have HB := n2_; clear n0_ n1_ n2_; (try clear hb); (try clear hb2); (try clear hk); (try clear hi); (try clear ho0)) | ((with_reducible refine gate_dst (N := 3) rfl ?_); refine box_event ?hg (N := 3) ?hd (cs := #[.string (⟨#[]⟩ : ByteArray), .string (⟨#[]⟩ : ByteArray), .string (⟨#[]⟩ : ByteArray), .string (⟨#[]⟩ : ByteArray), .slice none 0 0, .string (⟨#[]⟩ : ByteArray)]) (t := 24) ?hr ?_; (case hd => rfl); (case hg => rfl); (case hr => first | (go_simp; done) | (go_simp; rfl)); intro gb291 hg w22 hbox hb; have n0_ := Aq.mk (yj (by (with_reducible repeat (first | apply zC | apply zB | apply zD)); exact HO288.out) hb); have n1_ := Aq.mk (zw (g := gb281) (o := .cells #[.string a0_0, .string a0_1, .string a0_2, .string a0_3, .slice A0_4 l0_4.length c0_4, .string a0_5] 24 (0, 0)) (by (with_reducible repeat (first | refine zg ?_ _ | refine zi ?_ | refine zh ?_ _)); exact BK281.out) hb); have n2_ := Aq.mk (zv (by repeat (with_reducible first | exact HB.out | apply zd | apply zb | apply zc | refine zf ?_ GE281.out)) hb); have n3_ := Aq.mk (hbox); have n4_ := Aq.mk ((by rw [hg]; exact (zz (by repeat (with_reducible first | exact HB.out | apply zd | apply zb | apply zc | refine zf ?_ GE281.out))) : w.heap.size ≤ gb291)); have n5_ := Aq.mk ((by rw [hg]; exact (zz (by repeat (with_reducible first | exact HB.out | apply zd | apply zb | apply zc | refine zf ?_ GE281.out))) : w.heap.size ≤ gb291)); have n6_ := Aq.mk ((by rw [hg]; exact Nat.ne_of_lt (zA (g := gb281) (o := .cells #[.string a0_0, .string a0_1, .string a0_2, .string a0_3, .slice A0_4 l0_4.length c0_4, .string a0_5] 24 (0, 0)) (by (with_reducible repeat (first | refine zg ?_ _ | refine zi ?_ | refine zh ?_ _)); exact BK281.out)) : gb281 ≠ gb291)); have n7_ := Aq.mk ((by rw [hg]; exact Nat.ne_of_gt (zA (g := gb281) (o := .cells #[.string a0_0, .string a0_1, .string a0_2, .string a0_3, .slice A0_4 l0_4.length c0_4, .string a0_5] 24 (0, 0)) (by (with_reducible repeat (first | refine zg ?_ _ | refine zi ?_ | refine zh ?_ _)); exact BK281.out)) : gb291 ≠ gb281)); clear HO288; clear BK281; clear HB; have HO288 := n0_; have BK281 := n1_; have HB := n2_; have BK291 := n3_; have GW291 := n4_; have GE291 := n5_; have NB281_291 := n6_; have NB291_281 := n7_; clear n0_ n1_ n2_ n3_ n4_ n5_ n6_ n7_; clear hb hbox hg; have hnb23 := NB291_281.out; have hnc23 := NB281_291.out; have hcz24_0 : w22.cell? ⟨gb291, 0, none⟩ = some (.string (⟨#[]⟩ : ByteArray)) := (ze BK291.out 0).trans rfl; have hcz24_1 : w22.cell? ⟨gb291, 1, none⟩ = some (.string (⟨#[]⟩ : ByteArray)) := (ze BK291.out 1).trans rfl; have hcz24_2 : w22.cell? ⟨gb291, 2, none⟩ = some (.string (⟨#[]⟩ : ByteArray)) := (ze BK291.out 2).trans rfl; have hcz24_3 : w22.cell? ⟨gb291, 3, none⟩ = some (.string (⟨#[]⟩ : ByteArray)) := (ze BK291.out 3).trans rfl; have hcz24_4 : w22.cell? ⟨gb291, 4, none⟩ = some (.slice none 0 0) := (ze BK291.out 4).trans rfl; have hcz24_5 : w22.cell? ⟨gb291, 5, none⟩ = some (.string (⟨#[]⟩ : ByteArray)) := (ze BK291.out 5).trans rfl; have hfz24_0 := za BK291.out 0; have hfz24_1 := za BK291.out 1; have hfz24_2 := za BK291.out 2; have hfz24_3 := za BK291.out 3; have hfz24_4 := za BK291.out 4; have hfz24_5 := za BK291.out 5; obtain ⟨Ao25, co25, eo25⟩ := yi HO288.out; subst eo25; have hcz26_0 : w22.cell? ⟨gb281, 0, none⟩ = some (.string a0_0) := (ze BK281.out 0).trans rfl; have hcz26_1 : w22.cell? ⟨gb281, 1, none⟩ = some (.string a0_1) := (ze BK281.out 1).trans rfl; have hcz26_2 : w22.cell? ⟨gb281, 2, none⟩ = some (.string a0_2) := (ze BK281.out 2).trans rfl; have hcz26_3 : w22.cell? ⟨gb281, 3, none⟩ = some (.string a0_3) := (ze BK281.out 3).trans rfl; have hcz26_4 : w22.cell? ⟨gb281, 4, none⟩ = some (.slice A0_4 l0_4.length c0_4) := (ze BK281.out 4).trans rfl; have hcz26_5 : w22.cell? ⟨gb281, 5, none⟩ = some (.string a0_5) := (ze BK281.out 5).trans rfl; have hfz26_0 := za BK281.out 0; have hfz26_1 := za BK281.out 1; have hfz26_2 := za BK281.out 2; have hfz26_3 := za BK281.out 3; have hfz26_4 := za BK281.out 4; have hfz26_5 := za BK281.out 5) | ((with_reducible refine gate_callee (f := 21) rfl ?_); refine goesL_ (some 22) rfl rfl Tryd.func21 (by kernel_rfl) rfl #[.agg #[.string a0_0, .string a0_1, .string a0_2, .string a0_3, .slice A0_4 l0_4.length c0_4, .string a0_5]] rfl (by (try simp only [zP, zQ, zR]); first | done | rfl | (simp only [zS, zT]; rfl)) ?_; (with_reducible refine (purl_Canonical.calls k a0_0 a0_1 a0_2 a0_3 _ _ l0_4 a0_5 t292 t293 t294 t295 t296 t299 t300 _ ?side1 ?side2 A3.out).mono ?_); (case side1 => exact Kd.C_below HR0_4.out (by repeat (with_reducible first | exact HB.out | apply zd | apply zb | apply zc | refine zf ?_ GE281.out | refine zf ?_ GE291.out))); (case side2 => exact HC0_4.out); rintro e w27 ⟨v297, rfl, ho0, hb⟩; refine ⟨_, rfl, ?_⟩; have n0_ := Aq.mk (Kd.R_elder' (by (with_reducible repeat (first | apply zC | apply zB | apply zD)); exact (Kd.R_mono (Kd.R_far (p := ⟨gb291, 5, none⟩) (Kd.R_far (p := ⟨gb291, 4, none⟩) (Kd.R_far (p := ⟨gb291, 3, none⟩) (Kd.R_far (p := ⟨gb291, 2, none⟩) (Kd.R_far (p := ⟨gb291, 1, none⟩) (Kd.R_far (p := ⟨gb291, 0, none⟩) (Kd.R_types HO288.out BK291.out (by decide)) (fun _ hk => hk.2) (.string t282)) (fun _ hk => hk.2) (.string t283)) (fun _ hk => hk.2) (.string t284)) (fun _ hk => hk.2) (.string t285)) (fun _ hk => hk.2) (.slice Ao25 t286.length co25)) (fun _ hk => hk.2) (.string t289)) (fun _ h_ => h_.1))) (Kd.R_base ho0) hb); have n1_ := Aq.mk (zX (Kd.R_new' ho0 (Kd.R_lt (by (with_reducible repeat (first | apply zC | apply zB | apply zD)); exact (Kd.R_mono (Kd.R_far (p := ⟨gb291, 5, none⟩) (Kd.R_far (p := ⟨gb291, 4, none⟩) (Kd.R_far (p := ⟨gb291, 3, none⟩) (Kd.R_far (p := ⟨gb291, 2, none⟩) (Kd.R_far (p := ⟨gb291, 1, none⟩) (Kd.R_far (p := ⟨gb291, 0, none⟩) (Kd.R_types HO288.out BK291.out (by decide)) (fun _ hk => hk.2) (.string t282)) (fun _ hk => hk.2) (.string t283)) (fun _ hk => hk.2) (.string t284)) (fun _ hk => hk.2) (.string t285)) (fun _ hk => hk.2) (.slice Ao25 t286.length co25)) (fun _ hk => hk.2) (.string t289)) (fun _ h_ => h_.1))))) (zz (by repeat (with_reducible first | exact HB.out | apply zd | apply zb | apply zc | refine zf ?_ GE281.out | refine zf ?_ GE291.out)))); have n2_ := Aq.mk (zw (g := gb281) (o := .cells #[.string a0_0, .string a0_1, .string a0_2, .string a0_3, .slice A0_4 l0_4.length c0_4, .string a0_5] 24 (0, 0)) (by (with_reducible repeat (first | refine zg ?_ _ | refine zi ?_ | refine zh ?_ _)); refine zx ?_ NB281_291.out _; (with_reducible repeat (first | refine zg ?_ _ | refine zi ?_ | refine zh ?_ _)); refine zx ?_ NB281_291.out _; (with_reducible repeat (first | refine zg ?_ _ | refine zi ?_ | refine zh ?_ _)); refine zx ?_ NB281_291.out _; (with_reducible repeat (first | refine zg ?_ _ | refine zi ?_ | refine zh ?_ _)); refine zx ?_ NB281_291.out _; (with_reducible repeat (first | refine zg ?_ _ | refine zi ?_ | refine zh ?_ _)); refine zx ?_ NB281_291.out _; (with_reducible repeat (first | refine zg ?_ _ | refine zi ?_ | refine zh ?_ _)); refine zx ?_ NB281_291.out _; (with_reducible repeat (first | refine zg ?_ _ | refine zi ?_ | refine zh ?_ _)); exact BK281.out) hb); have n3_ := Aq.mk (zw (g := gb291) (o := .cells #[.string t282, .string t283, .string t284, .string t285, .slice Ao25 t286.length co25, .string t289] 24 (0, 0)) (by (with_reducible repeat (first | refine zg ?_ _ | refine zi ?_ | refine zh ?_ _)); refine zy (cs := #[.string t282, .string t283, .string t284, .string t285, .slice Ao25 t286.length co25, .string (⟨#[]⟩ : ByteArray)]) ?_ 5 _ rfl; (with_reducible repeat (first | refine zg ?_ _ | refine zi ?_ | refine zh ?_ _)); refine zy (cs := #[.string t282, .string t283, .string t284, .string t285, .slice none 0 0, .string (⟨#[]⟩ : ByteArray)]) ?_ 4 _ rfl; (with_reducible repeat (first | refine zg ?_ _ | refine zi ?_ | refine zh ?_ _)); refine zy (cs := #[.string t282, .string t283, .string t284, .string (⟨#[]⟩ : ByteArray), .slice none 0 0, .string (⟨#[]⟩ : ByteArray)]) ?_ 3 _ rfl; (with_reducible repeat (first | refine zg ?_ _ | refine zi ?_ | refine zh ?_ _)); refine zy (cs := #[.string t282, .string t283, .string (⟨#[]⟩ : ByteArray), .string (⟨#[]⟩ : ByteArray), .slice none 0 0, .string (⟨#[]⟩ : ByteArray)]) ?_ 2 _ rfl; (with_reducible repeat (first | refine zg ?_ _ | refine zi ?_ | refine zh ?_ _)); refine zy (cs := #[.string t282, .string (⟨#[]⟩ : ByteArray), .string (⟨#[]⟩ : ByteArray), .string (⟨#[]⟩ : ByteArray), .slice none 0 0, .string (⟨#[]⟩ : ByteArray)]) ?_ 1 _ rfl; (with_reducible repeat (first | refine zg ?_ _ | refine zi ?_ | refine zh ?_ _)); refine zy (cs := #[.string (⟨#[]⟩ : ByteArray), .string (⟨#[]⟩ : ByteArray), .string (⟨#[]⟩ : ByteArray), .string (⟨#[]⟩ : ByteArray), .slice none 0 0, .string (⟨#[]⟩ : ByteArray)]) ?_ 0 _ rfl; (with_reducible repeat (first | refine zg ?_ _ | refine zi ?_ | refine zh ?_ _)); exact BK291.out) hb); have n4_ := Aq.mk (zv (by repeat (with_reducible first | exact HB.out | apply zd | apply zb | apply zc | refine zf ?_ GE281.out | refine zf ?_ GE291.out)) hb); clear HO288; clear BK281; clear BK291; clear HB; have HO288 := n0_; have HO298 := n1_; have BK281 := n2_; have BK291 := n3_; have HB := n4_; clear n0_ n1_ n2_ n3_ n4_; (try clear hb); (try clear hb2); (try clear hk); (try clear hi); (try clear ho0)) | ((with_reducible refine gate_dst (N := 5) rfl ?_); refine box_event ?hg (N := 5) ?hd (cs := #[.string (⟨#[]⟩ : ByteArray), .string (⟨#[]⟩ : ByteArray), .string (⟨#[]⟩ : ByteArray), .string (⟨#[]⟩ : ByteArray), .slice none 0 0, .string (⟨#[]⟩ : ByteArray)]) (t := 24) ?hr ?_; (case hd => rfl); (case hg => rfl); (case hr => first | (go_simp; done) | (go_simp; rfl)); intro gb301 hg w28 hbox hb; have n0_ := Aq.mk (yj (by (with_reducible repeat (first | apply zC | apply zB | apply zD)); exact HO288.out) hb); have n1_ := Aq.mk (yj (by (with_reducible repeat (first | apply zC | apply zB | apply zD)); exact HO298.out) hb); have n2_ := Aq.mk (zw (g := gb281) (o := .cells #[.string a0_0, .string a0_1, .string a0_2, .string a0_3, .slice A0_4 l0_4.length c0_4, .string a0_5] 24 (0, 0)) (by (with_reducible repeat (first | refine zg ?_ _ | refine zi ?_ | refine zh ?_ _)); exact BK281.out) hb); have n3_ := Aq.mk (zw (g := gb291) (o := .cells #[.string t282, .string t283, .string t284, .string t285, .slice Ao25 t286.length co25, .string t289] 24 (0, 0)) (by (with_reducible repeat (first | refine zg ?_ _ | refine zi ?_ | refine zh ?_ _)); exact BK291.out) hb); have n4_ := Aq.mk (zv (by repeat (with_reducible first | exact HB.out | apply zd | apply zb | apply zc | refine zf ?_ GE281.out | refine zf ?_ GE291.out)) hb); have n5_ := Aq.mk (hbox); have n6_ := Aq.mk ((by rw [hg]; exact (zz (by repeat (with_reducible first | exact HB.out | apply zd | apply zb | apply zc | refine zf ?_ GE281.out | refine zf ?_ GE291.out))) : w.heap.size ≤ gb301)); have n7_ := Aq.mk ((by rw [hg]; exact (zz (by repeat (with_reducible first | exact HB.out | apply zd | apply zb | apply zc | refine zf ?_ GE281.out | refine zf ?_ GE291.out))) : w.heap.size ≤ gb301)); have n8_ := Aq.mk ((by rw [hg]; exact Nat.ne_of_lt (zA (g := gb281) (o := .cells #[.string a0_0, .string a0_1, .string a0_2, .string a0_3, .slice A0_4 l0_4.length c0_4, .string a0_5] 24 (0, 0)) (by (with_reducible repeat (first | refine zg ?_ _ | refine zi ?_ | refine zh ?_ _)); exact BK281.out)) : gb281 ≠ gb301)); have n9_ := Aq.mk ((by rw [hg]; exact Nat.ne_of_gt (zA (g := gb281) (o := .cells #[.string a0_0, .string a0_1, .string a0_2, .string a0_3, .slice A0_4 l0_4.length c0_4, .string a0_5] 24 (0, 0)) (by (with_reducible repeat (first | refine zg ?_ _ | refine zi ?_ | refine zh ?_ _)); exact BK281.out)) : gb301 ≠ gb281)); have n10_ := Aq.mk ((by rw [hg]; exact Nat.ne_of_lt (zA (g := gb291) (o := .cells #[.string t282, .string t283, .string t284, .string t285, .slice Ao25 t286.length co25, .string t289] 24 (0, 0)) (by (with_reducible repeat (first | refine zg ?_ _ | refine zi ?_ | refine zh ?_ _)); exact BK291.out)) : gb291 ≠ gb301)); have n11_ := Aq.mk ((by rw [hg]; exact Nat.ne_of_gt (zA (g := gb291) (o := .cells #[.string t282, .string t283, .string t284, .string t285, .slice Ao25 t286.length co25, .string t289] 24 (0, 0)) (by (with_reducible repeat (first | refine zg ?_ _ | refine zi ?_ | refine zh ?_ _)); exact BK291.out)) : gb301 ≠ gb291)); clear HO288; clear HO298; clear BK281; clear BK291; clear HB; have HO288 := n0_; have HO298 := n1_; have BK281 := n2_; have BK291 := n3_; have HB := n4_; have BK301 := n5_; have GW301 := n6_; have GE301 := n7_; have NB281_301 := n8_; have NB301_281 := n9_; have NB291_301 := n10_; have NB301_291 := n11_; clear n0_ n1_ n2_ n3_ n4_ n5_ n6_ n7_ n8_ n9_ n10_ n11_; clear hb hbox hg; have hnb29 := NB301_281.out; have hnc29 := NB281_301.out; have hnb30 := NB301_291.out; have hnc30 := NB291_301.out; have hcz31_0 : w28.cell? ⟨gb301, 0, none⟩ = some (.string (⟨#[]⟩ : ByteArray)) := (ze BK301.out 0).trans rfl; have hcz31_1 : w28.cell? ⟨gb301, 1, none⟩ = some (.string (⟨#[]⟩ : ByteArray)) := (ze BK301.out 1).trans rfl; have hcz31_2 : w28.cell? ⟨gb301, 2, none⟩ = some (.string (⟨#[]⟩ : ByteArray)) := (ze BK301.out 2).trans rfl; have hcz31_3 : w28.cell? ⟨gb301, 3, none⟩ = some (.string (⟨#[]⟩ : ByteArray)) := (ze BK301.out 3).trans rfl; have hcz31_4 : w28.cell? ⟨gb301, 4, none⟩ = some (.slice none 0 0) := (ze BK301.out 4).trans rfl; have hcz31_5 : w28.cell? ⟨gb301, 5, none⟩ = some (.string (⟨#[]⟩ : ByteArray)) := (ze BK301.out 5).trans rfl; have hfz31_0 := za BK301.out 0; have hfz31_1 := za BK301.out 1; have hfz31_2 := za BK301.out 2; have hfz31_3 := za BK301.out 3; have hfz31_4 := za BK301.out 4; have hfz31_5 := za BK301.out 5; obtain ⟨Ao32, co32, eo32⟩ := yi HO298.out; subst eo32; have hcz33_0 : w28.cell? ⟨gb281, 0, none⟩ = some (.string a0_0) := (ze BK281.out 0).trans rfl; have hcz33_1 : w28.cell? ⟨gb281, 1, none⟩ = some (.string a0_1) := (ze BK281.out 1).trans rfl; have hcz33_2 : w28.cell? ⟨gb281, 2, none⟩ = some (.string a0_2) := (ze BK281.out 2).trans rfl; have hcz33_3 : w28.cell? ⟨gb281, 3, none⟩ = some (.string a0_3) := (ze BK281.out 3).trans rfl; have hcz33_4 : w28.cell? ⟨gb281, 4, none⟩ = some (.slice A0_4 l0_4.length c0_4) := (ze BK281.out 4).trans rfl; have hcz33_5 : w28.cell? ⟨gb281, 5, none⟩ = some (.string a0_5) := (ze BK281.out 5).trans rfl; have hfz33_0 := za BK281.out 0; have hfz33_1 := za BK281.out 1; have hfz33_2 := za BK281.out 2; have hfz33_3 := za BK281.out 3; have hfz33_4 := za BK281.out 4; have hfz33_5 := za BK281.out 5) | ((with_reducible refine gate_callee (f := 22) rfl ?_); refine goesL_ (some 27) rfl rfl Tryd.func22 (by kernel_rfl) rfl #[.agg #[.string a0_0, .string a0_1, .string a0_2, .string a0_3, .slice A0_4 l0_4.length c0_4, .string a0_5]] rfl (by (try simp only [zP, zQ, zR]); first | done | rfl | (simp only [zS, zT]; rfl)) ?_; (with_reducible refine (r2_Print.calls k a0_0 a0_1 a0_2 a0_3 _ _ l0_4 a0_5 t302 t303 _ ?side1 ?side2 A4.out).mono ?_); (case side1 => exact Kd.C_below HR0_4.out (by repeat (with_reducible first | exact HB.out | apply zd | apply zb | apply zc | refine zf ?_ GE281.out | refine zf ?_ GE291.out | refine zf ?_ GE301.out))); (case side2 => exact HC0_4.out); rintro e w34 ⟨rfl, hb⟩; refine ⟨_, rfl, ?_⟩; have n0_ := Aq.mk (yj (by (with_reducible repeat (first | apply zC | apply zB | apply zD)); exact (Kd.R_mono (Kd.R_far (p := ⟨gb301, 5, none⟩) (Kd.R_far (p := ⟨gb301, 4, none⟩) (Kd.R_far (p := ⟨gb301, 3, none⟩) (Kd.R_far (p := ⟨gb301, 2, none⟩) (Kd.R_far (p := ⟨gb301, 1, none⟩) (Kd.R_far (p := ⟨gb301, 0, none⟩) (Kd.R_types HO288.out BK301.out (by decide)) (fun _ hk => hk.2) (.string t292)) (fun _ hk => hk.2) (.string t293)) (fun _ hk => hk.2) (.string t294)) (fun _ hk => hk.2) (.string t295)) (fun _ hk => hk.2) (.slice Ao32 t296.length co32)) (fun _ hk => hk.2) (.string t299)) (fun _ h_ => h_.1))) hb); have n1_ := Aq.mk (yj (by (with_reducible repeat (first | apply zC | apply zB | apply zD)); exact (Kd.R_mono (Kd.R_far (p := ⟨gb301, 5, none⟩) (Kd.R_far (p := ⟨gb301, 4, none⟩) (Kd.R_far (p := ⟨gb301, 3, none⟩) (Kd.R_far (p := ⟨gb301, 2, none⟩) (Kd.R_far (p := ⟨gb301, 1, none⟩) (Kd.R_far (p := ⟨gb301, 0, none⟩) (Kd.R_types HO298.out BK301.out (by decide)) (fun _ hk => hk.2) (.string t292)) (fun _ hk => hk.2) (.string t293)) (fun _ hk => hk.2) (.string t294)) (fun _ hk => hk.2) (.string t295)) (fun _ hk => hk.2) (.slice Ao32 t296.length co32)) (fun _ hk => hk.2) (.string t299)) (fun _ h_ => h_.1))) hb); have n2_ := Aq.mk (zw (g := gb281) (o := .cells #[.string a0_0, .string a0_1, .string a0_2, .string a0_3, .slice A0_4 l0_4.length c0_4, .string a0_5] 24 (0, 0)) (by (with_reducible repeat (first | refine zg ?_ _ | refine zi ?_ | refine zh ?_ _)); refine zx ?_ NB281_301.out _; (with_reducible repeat (first | refine zg ?_ _ | refine zi ?_ | refine zh ?_ _)); refine zx ?_ NB281_301.out _; (with_reducible repeat (first | refine zg ?_ _ | refine zi ?_ | refine zh ?_ _)); refine zx ?_ NB281_301.out _; (with_reducible repeat (first | refine zg ?_ _ | refine zi ?_ | refine zh ?_ _)); refine zx ?_ NB281_301.out _; (with_reducible repeat (first | refine zg ?_ _ | refine zi ?_ | refine zh ?_ _)); refine zx ?_ NB281_301.out _; (with_reducible repeat (first | refine zg ?_ _ | refine zi ?_ | refine zh ?_ _)); refine zx ?_ NB281_301.out _; (with_reducible repeat (first | refine zg ?_ _ | refine zi ?_ | refine zh ?_ _)); exact BK281.out) hb); have n3_ := Aq.mk (zw (g := gb291) (o := .cells #[.string t282, .string t283, .string t284, .string t285, .slice Ao25 t286.length co25, .string t289] 24 (0, 0)) (by (with_reducible repeat (first | refine zg ?_ _ | refine zi ?_ | refine zh ?_ _)); refine zx ?_ NB291_301.out _; (with_reducible repeat (first | refine zg ?_ _ | refine zi ?_ | refine zh ?_ _)); refine zx ?_ NB291_301.out _; (with_reducible repeat (first | refine zg ?_ _ | refine zi ?_ | refine zh ?_ _)); refine zx ?_ NB291_301.out _; (with_reducible repeat (first | refine zg ?_ _ | refine zi ?_ | refine zh ?_ _)); refine zx ?_ NB291_301.out _; (with_reducible repeat (first | refine zg ?_ _ | refine zi ?_ | refine zh ?_ _)); refine zx ?_ NB291_301.out _; (with_reducible repeat (first | refine zg ?_ _ | refine zi ?_ | refine zh ?_ _)); refine zx ?_ NB291_301.out _; (with_reducible repeat (first | refine zg ?_ _ | refine zi ?_ | refine zh ?_ _)); exact BK291.out) hb); have n4_ := Aq.mk (zw (g := gb301) (o := .cells #[.string t292, .string t293, .string t294, .string t295, .slice Ao32 t296.length co32, .string t299] 24 (0, 0)) (by (with_reducible repeat (first | refine zg ?_ _ | refine zi ?_ | refine zh ?_ _)); refine zy (cs := #[.string t292, .string t293, .string t294, .string t295, .slice Ao32 t296.length co32, .string (⟨#[]⟩ : ByteArray)]) ?_ 5 _ rfl; (with_reducible repeat (first | refine zg ?_ _ | refine zi ?_ | refine zh ?_ _)); refine zy (cs := #[.string t292, .string t293, .string t294, .string t295, .slice none 0 0, .string (⟨#[]⟩ : ByteArray)]) ?_ 4 _ rfl; (with_reducible repeat (first | refine zg ?_ _ | refine zi ?_ | refine zh ?_ _)); refine zy (cs := #[.string t292, .string t293, .string t294, .string (⟨#[]⟩ : ByteArray), .slice none 0 0, .string (⟨#[]⟩ : ByteArray)]) ?_ 3 _ rfl; (with_reducible repeat (first | refine zg ?_ _ | refine zi ?_ | refine zh ?_ _)); refine zy (cs := #[.string t292, .string t293, .string (⟨#[]⟩ : ByteArray), .string (⟨#[]⟩ : ByteArray), .slice none 0 0, .string (⟨#[]⟩ : ByteArray)]) ?_ 2 _ rfl; (with_reducible repeat (first | refine zg ?_ _ | refine zi ?_ | refine zh ?_ _)); refine zy (cs := #[.string t292, .string (⟨#[]⟩ : ByteArray), .string (⟨#[]⟩ : ByteArray), .string (⟨#[]⟩ : ByteArray), .slice none 0 0, .string (⟨#[]⟩ : ByteArray)]) ?_ 1 _ rfl; (with_reducible repeat (first | refine zg ?_ _ | refine zi ?_ | refine zh ?_ _)); refine zy (cs := #[.string (⟨#[]⟩ : ByteArray), .string (⟨#[]⟩ : ByteArray), .string (⟨#[]⟩ : ByteArray), .string (⟨#[]⟩ : ByteArray), .slice none 0 0, .string (⟨#[]⟩ : ByteArray)]) ?_ 0 _ rfl; (with_reducible repeat (first | refine zg ?_ _ | refine zi ?_ | refine zh ?_ _)); exact BK301.out) hb); have n5_ := Aq.mk (zv (by repeat (with_reducible first | exact HB.out | apply zd | apply zb | apply zc | refine zf ?_ GE281.out | refine zf ?_ GE291.out | refine zf ?_ GE301.out)) hb); clear HO288; clear HO298; clear BK281; clear BK291; clear BK301; clear HB; have HO288 := n0_; have HO298 := n1_; have BK281 := n2_; have BK291 := n3_; have BK301 := n4_; have HB := n5_; clear n0_ n1_ n2_ n3_ n4_ n5_; (try clear hb); (try clear hb2); (try clear hk); (try clear hi); have hcz35_0 : w34.cell? ⟨gb281, 0, none⟩ = some (.string a0_0) := (ze BK281.out 0).trans rfl; have hcz35_1 : w34.cell? ⟨gb281, 1, none⟩ = some (.string a0_1) := (ze BK281.out 1).trans rfl; have hcz35_2 : w34.cell? ⟨gb281, 2, none⟩ = some (.string a0_2) := (ze BK281.out 2).trans rfl; have hcz35_3 : w34.cell? ⟨gb281, 3, none⟩ = some (.string a0_3) := (ze BK281.out 3).trans rfl; have hcz35_4 : w34.cell? ⟨gb281, 4, none⟩ = some (.slice A0_4 l0_4.length c0_4) := (ze BK281.out 4).trans rfl; have hcz35_5 : w34.cell? ⟨gb281, 5, none⟩ = some (.string a0_5) := (ze BK281.out 5).trans rfl; have hfz35_0 := za BK281.out 0; have hfz35_1 := za BK281.out 1; have hfz35_2 := za BK281.out 2; have hfz35_3 := za BK281.out 3; have hfz35_4 := za BK281.out 4; have hfz35_5 := za BK281.out 5) | ((with_reducible refine gate_callee (f := 14) rfl ?_); refine goesL_ (some 32) rfl rfl Tryd.func14 (by kernel_rfl) rfl #[.agg #[.string a0_0, .string a0_1, .string a0_2, .string a0_3, .slice A0_4 l0_4.length c0_4, .string a0_5]] rfl (by (try simp only [zP, zQ, zR]); first | done | rfl | (simp only [zS, zT]; rfl)) ?_; (with_reducible refine (purl_Print.calls k a0_0 a0_1 a0_2 a0_3 _ _ l0_4 a0_5 t304 t305 _ ?side1 ?side2 A5.out).mono ?_); (case side1 => repeat (first | exact (Kd.C_below HR0_4.out HB.out) | (with_reducible refine zF ?_ _) | (with_reducible refine zE ?_ _) | (with_reducible refine zG ?_))); (case side2 => exact HC0_4.out); rintro e w36 ⟨rfl, hb⟩; refine ⟨_, rfl, ?_⟩; have n0_ := Aq.mk (yj (by (with_reducible repeat (first | apply zC | apply zB | apply zD)); exact HO288.out) hb); have n1_ := Aq.mk (yj (by (with_reducible repeat (first | apply zC | apply zB | apply zD)); exact HO298.out) hb); have n2_ := Aq.mk (zw (g := gb281) (o := .cells #[.string a0_0, .string a0_1, .string a0_2, .string a0_3, .slice A0_4 l0_4.length c0_4, .string a0_5] 24 (0, 0)) (by (with_reducible repeat (first | refine zg ?_ _ | refine zi ?_ | refine zh ?_ _)); exact BK281.out) hb); have n3_ := Aq.mk (zw (g := gb291) (o := .cells #[.string t282, .string t283, .string t284, .string t285, .slice Ao25 t286.length co25, .string t289] 24 (0, 0)) (by (with_reducible repeat (first | refine zg ?_ _ | refine zi ?_ | refine zh ?_ _)); exact BK291.out) hb); have n4_ := Aq.mk (zw (g := gb301) (o := .cells #[.string t292, .string t293, .string t294, .string t295, .slice Ao32 t296.length co32, .string t299] 24 (0, 0)) (by (with_reducible repeat (first | refine zg ?_ _ | refine zi ?_ | refine zh ?_ _)); exact BK301.out) hb); have n5_ := Aq.mk (zv (by repeat (with_reducible first | exact HB.out | apply zd | apply zb | apply zc | refine zf ?_ GE281.out | refine zf ?_ GE291.out | refine zf ?_ GE301.out)) hb); clear HO288; clear HO298; clear BK281; clear BK291; clear BK301; clear HB; have HO288 := n0_; have HO298 := n1_; have BK281 := n2_; have BK291 := n3_; have BK301 := n4_; have HB := n5_; clear n0_ n1_ n2_ n3_ n4_ n5_; (try clear hb); (try clear hb2); (try clear hk); (try clear hi); have hcz37_0 : w36.cell? ⟨gb281, 0, none⟩ = some (.string a0_0) := (ze BK281.out 0).trans rfl; have hcz37_1 : w36.cell? ⟨gb281, 1, none⟩ = some (.string a0_1) := (ze BK281.out 1).trans rfl; have hcz37_2 : w36.cell? ⟨gb281, 2, none⟩ = some (.string a0_2) := (ze BK281.out 2).trans rfl; have hcz37_3 : w36.cell? ⟨gb281, 3, none⟩ = some (.string a0_3) := (ze BK281.out 3).trans rfl; have hcz37_4 : w36.cell? ⟨gb281, 4, none⟩ = some (.slice A0_4 l0_4.length c0_4) := (ze BK281.out 4).trans rfl; have hcz37_5 : w36.cell? ⟨gb281, 5, none⟩ = some (.string a0_5) := (ze BK281.out 5).trans rfl; have hfz37_0 := za BK281.out 0; have hfz37_1 := za BK281.out 1; have hfz37_2 := za BK281.out 2; have hfz37_3 := za BK281.out 3; have hfz37_4 := za BK281.out 4; have hfz37_5 := za BK281.out 5) | ((with_reducible refine gate_callee (f := 23) rfl ?_); refine goesL_ (some 37) rfl rfl Tryd.func23 (by kernel_rfl) rfl #[.agg #[.string a0_0, .string a0_1, .string a0_2, .string a0_3, .slice A0_4 l0_4.length c0_4, .string a0_5]] rfl (by (try simp only [zP, zQ, zR]); first | done | rfl | (simp only [zS, zT]; rfl)) ?_; (with_reducible refine (r2_Key.calls k a0_0 a0_1 a0_2 a0_3 _ _ l0_4 a0_5 t306 t307 _ ?side1 ?side2 A6.out).mono ?_); (case side1 => repeat (first | exact (Kd.C_below HR0_4.out HB.out) | (with_reducible refine zF ?_ _) | (with_reducible refine zE ?_ _) | (with_reducible refine zG ?_))); (case side2 => exact HC0_4.out); rintro e w38 ⟨rfl, hb⟩; refine ⟨_, rfl, ?_⟩; have n0_ := Aq.mk (yj (by (with_reducible repeat (first | apply zC | apply zB | apply zD)); exact HO288.out) hb); have n1_ := Aq.mk (yj (by (with_reducible repeat (first | apply zC | apply zB | apply zD)); exact HO298.out) hb); have n2_ := Aq.mk (zw (g := gb281) (o := .cells #[.string a0_0, .string a0_1, .string a0_2, .string a0_3, .slice A0_4 l0_4.length c0_4, .string a0_5] 24 (0, 0)) (by (with_reducible repeat (first | refine zg ?_ _ | refine zi ?_ | refine zh ?_ _)); exact BK281.out) hb); have n3_ := Aq.mk (zw (g := gb291) (o := .cells #[.string t282, .string t283, .string t284, .string t285, .slice Ao25 t286.length co25, .string t289] 24 (0, 0)) (by (with_reducible repeat (first | refine zg ?_ _ | refine zi ?_ | refine zh ?_ _)); exact BK291.out) hb); have n4_ := Aq.mk (zw (g := gb301) (o := .cells #[.string t292, .string t293, .string t294, .string t295, .slice Ao32 t296.length co32, .string t299] 24 (0, 0)) (by (with_reducible repeat (first | refine zg ?_ _ | refine zi ?_ | refine zh ?_ _)); exact BK301.out) hb); have n5_ := Aq.mk (zv (by repeat (with_reducible first | exact HB.out | apply zd | apply zb | apply zc | refine zf ?_ GE281.out | refine zf ?_ GE291.out | refine zf ?_ GE301.out)) hb); clear HO288; clear HO298; clear BK281; clear BK291; clear BK301; clear HB; have HO288 := n0_; have HO298 := n1_; have BK281 := n2_; have BK291 := n3_; have BK301 := n4_; have HB := n5_; clear n0_ n1_ n2_ n3_ n4_ n5_; (try clear hb); (try clear hb2); (try clear hk); (try clear hi); have hcz39_0 : w38.cell? ⟨gb281, 0, none⟩ = some (.string a0_0) := (ze BK281.out 0).trans rfl; have hcz39_1 : w38.cell? ⟨gb281, 1, none⟩ = some (.string a0_1) := (ze BK281.out 1).trans rfl; have hcz39_2 : w38.cell? ⟨gb281, 2, none⟩ = some (.string a0_2) := (ze BK281.out 2).trans rfl; have hcz39_3 : w38.cell? ⟨gb281, 3, none⟩ = some (.string a0_3) := (ze BK281.out 3).trans rfl; have hcz39_4 : w38.cell? ⟨gb281, 4, none⟩ = some (.slice A0_4 l0_4.length c0_4) := (ze BK281.out 4).trans rfl; have hcz39_5 : w38.cell? ⟨gb281, 5, none⟩ = some (.string a0_5) := (ze BK281.out 5).trans rfl; have hfz39_0 := za BK281.out 0; have hfz39_1 := za BK281.out 1; have hfz39_2 := za BK281.out 2; have hfz39_3 := za BK281.out 3; have hfz39_4 := za BK281.out 4; have hfz39_5 := za BK281.out 5) | ((with_reducible refine gate_callee (f := 24) rfl ?_); refine goesL_ (some 42) rfl rfl Tryd.func24 (by kernel_rfl) rfl #[.agg #[.string a0_0, .string a0_1, .string a0_2, .string a0_3, .slice A0_4 l0_4.length c0_4, .string a0_5]] rfl (by (try simp only [zP, zQ, zR]); first | done | rfl | (simp only [zS, zT]; rfl)) ?_; (with_reducible refine (purl_Key.calls k a0_0 a0_1 a0_2 a0_3 _ _ l0_4 a0_5 t308 t309 _ ?side1 ?side2 A7.out).mono ?_); (case side1 => repeat (first | exact (Kd.C_below HR0_4.out HB.out) | (with_reducible refine zF ?_ _) | (with_reducible refine zE ?_ _) | (with_reducible refine zG ?_))); (case side2 => exact HC0_4.out); rintro e w40 ⟨rfl, hb⟩; refine ⟨_, rfl, ?_⟩; have n0_ := Aq.mk (yj (by (with_reducible repeat (first | apply zC | apply zB | apply zD)); exact HO288.out) hb); have n1_ := Aq.mk (yj (by (with_reducible repeat (first | apply zC | apply zB | apply zD)); exact HO298.out) hb); have n2_ := Aq.mk (zw (g := gb281) (o := .cells #[.string a0_0, .string a0_1, .string a0_2, .string a0_3, .slice A0_4 l0_4.length c0_4, .string a0_5] 24 (0, 0)) (by (with_reducible repeat (first | refine zg ?_ _ | refine zi ?_ | refine zh ?_ _)); exact BK281.out) hb); have n3_ := Aq.mk (zw (g := gb291) (o := .cells #[.string t282, .string t283, .string t284, .string t285, .slice Ao25 t286.length co25, .string t289] 24 (0, 0)) (by (with_reducible repeat (first | refine zg ?_ _ | refine zi ?_ | refine zh ?_ _)); exact BK291.out) hb); have n4_ := Aq.mk (zw (g := gb301) (o := .cells #[.string t292, .string t293, .string t294, .string t295, .slice Ao32 t296.length co32, .string t299] 24 (0, 0)) (by (with_reducible repeat (first | refine zg ?_ _ | refine zi ?_ | refine zh ?_ _)); exact BK301.out) hb); have n5_ := Aq.mk (zv (by repeat (with_reducible first | exact HB.out | apply zd | apply zb | apply zc | refine zf ?_ GE281.out | refine zf ?_ GE291.out | refine zf ?_ GE301.out)) hb); clear HO288; clear HO298; clear BK281; clear BK291; clear BK301; clear HB; have HO288 := n0_; have HO298 := n1_; have BK281 := n2_; have BK291 := n3_; have BK301 := n4_; have HB := n5_; clear n0_ n1_ n2_ n3_ n4_ n5_; (try clear hb); (try clear hb2); (try clear hk); (try clear hi)))
        have n0_ := Aq.mk (zD HO288.out)
        have n1_ := Aq.mk (zD HO298.out)
        have n2_ := Aq.mk (zi BK281.out)
        have n3_ := Aq.mk (zi BK291.out)
        have n4_ := Aq.mk (zi BK301.out)
        have n5_ := Aq.mk (zc HB.out)
        clear HO288
        clear HO298
        clear BK281
        clear BK291
        clear BK301
        clear HB
        have HO288 := n0_
        have HO298 := n1_
        have BK281 := n2_
        have BK291 := n3_
        have BK301 := n4_
        have HB := n5_
        clear n0_ n1_ n2_ n3_ n4_ n5_
        refine start_ (n := 39) (S := fun w' => w'.cell? ⟨gb281, 0, none⟩ = some (.string a0_0) ∧ w'.cell? ⟨gb281, 1, none⟩ = some (.string a0_1) ∧ w'.cell? ⟨gb281, 2, none⟩ = some (.string a0_2) ∧ w'.cell? ⟨gb281, 3, none⟩ = some (.string a0_3) ∧ w'.cell? ⟨gb281, 4, none⟩ = some (.slice A0_4 l0_4.length c0_4) ∧ w'.cell? ⟨gb281, 5, none⟩ = some (.string a0_5) ∧ w'.cell? ⟨gb301, 0, none⟩ = some (.string t292) ∧ w'.cell? ⟨gb301, 1, none⟩ = some (.string t293) ∧ w'.cell? ⟨gb301, 2, none⟩ = some (.string t294) ∧ w'.cell? ⟨gb301, 3, none⟩ = some (.string t295) ∧ w'.cell? ⟨gb301, 4, none⟩ = some (.slice Ao32 t296.length co32) ∧ w'.cell? ⟨gb301, 5, none⟩ = some (.string t299) ∧ w'.cell? ⟨gb291, 0, none⟩ = some (.string t282) ∧ w'.cell? ⟨gb291, 1, none⟩ = some (.string t283) ∧ w'.cell? ⟨gb291, 2, none⟩ = some (.string t284) ∧ w'.cell? ⟨gb291, 3, none⟩ = some (.string t285) ∧ w'.cell? ⟨gb291, 4, none⟩ = some (.slice Ao25 t286.length co25) ∧ w'.cell? ⟨gb291, 5, none⟩ = some (.string t289)) (ds := []) #[false, false, false, false, false, false, false, false, false, false, false, false, false, false, false, false, false, false, false, false, false, false, false, false, false, false, false, false, false, false, false, false, false, false, false, false, false, false, false] (by kernel_rfl) rfl rfl ⟨(ze BK281.out 0).trans rfl, (ze BK281.out 1).trans rfl, (ze BK281.out 2).trans rfl, (ze BK281.out 3).trans rfl, (ze BK281.out 4).trans rfl, (ze BK281.out 5).trans rfl, (ze BK301.out 0).trans rfl, (ze BK301.out 1).trans rfl, (ze BK301.out 2).trans rfl, (ze BK301.out 3).trans rfl, (ze BK301.out 4).trans rfl, (ze BK301.out 5).trans rfl, (ze BK291.out 0).trans rfl, (ze BK291.out 1).trans rfl, (ze BK291.out 2).trans rfl, (ze BK291.out 3).trans rfl, (ze BK291.out 4).trans rfl, (ze BK291.out 5).trans rfl⟩ (fun hHeld => ?_); refine with_tabW l2_C.tab7 l2_C.bits7 (fun HT_ HW_ => ?_)
        generalize w40.drew = w41 at HO288 HO298 BK281 BK291 BK301 HB hHeld ⊢
        refine take_ (i := 0) (N := some 45) (v := ?_) (a' := ?_) #[true, false, false, false, false, false, false, false, false, false, false, false, false, false, false, false, false, false, false, false, false, false, false, false, false, false, false, false, false, false, false, false, false, false, false, false, false, false, false] rfl rfl (take_ofW HT_.out HW_.out (by kernel_rfl)) (fun _ _ _ h => h) (Or.inl ⟨by rfl, ?_⟩) hHeld ?_ ?_
        rotate_left
        ·rintro w' ⟨s0, s1, s2, s3, s4, s5, s6, s7, s8, s9, s10, s11, s12, s13, s14, s15, s16, s17⟩
         go_simp
         with_reducible rfl
        rotate_left
        ·simp only [Act.put, zJ, zK, zL, i64_w, i32_w]
         rfl
        refine take_ (i := 2) (N := some 47) (v := ?_) (a' := ?_) #[true, false, true, false, false, false, false, false, false, false, false, false, false, false, false, false, false, false, false, false, false, false, false, false, false, false, false, false, false, false, false, false, false, false, false, false, false, false, false] rfl rfl (take_ofW HT_.out HW_.out (by kernel_rfl)) (fun _ _ _ h => h) (Or.inl ⟨by rfl, ?_⟩) hHeld ?_ ?_
        rotate_left
        ·rintro w' ⟨s0, s1, s2, s3, s4, s5, s6, s7, s8, s9, s10, s11, s12, s13, s14, s15, s16, s17⟩
         go_simp
         with_reducible rfl
        rotate_left
        ·simp only [Act.put, zJ, zK, zL, i64_w, i32_w]
         rfl
        refine one_ (i := 1) (N := some 46) #[true, true, true, false, false, false, false, false, false, false, false, false, false, false, false, false, false, false, false, false, false, false, false, false, false, false, false, false, false, false, false, false, false, false, false, false, false, false, false] rfl rfl (one_of HT_.out (by kernel_rfl)) (by decide) (fun K hK => ?_)
        refine goes_ Tryd.func25 (by kernel_rfl) rfl #[.agg #[.string a0_0, .string a0_1, .string a0_2, .string a0_3, .slice A0_4 l0_4.length c0_4, .string a0_5]] (by rfl) rfl rfl (by (try simp only [zP, zQ, zR]); first | done | rfl | (simp only [zS, zT]; rfl)) ?_
        with_reducible refine (r2_Check.calls k a0_0 a0_1 a0_2 a0_3 _ _ l0_4 a0_5 t310 _ ?side1 ?side2 A8.out).mono ?_
        (case side1 => repeat (first | exact (Kd.C_below HR0_4.out HB.out) | (with_reducible refine zF ?_ _) | (with_reducible refine zE ?_ _) | (with_reducible refine zG ?_)))
        (case side2 => exact HC0_4.out)
        rintro e w42 ⟨rfl, hb⟩
        refine ⟨_, rfl, ?_⟩
        have n0_ := Aq.mk (yj (by (with_reducible repeat (first | apply zC | apply zB | apply zD)); exact HO288.out) hb)
        have n1_ := Aq.mk (yj (by (with_reducible repeat (first | apply zC | apply zB | apply zD)); exact HO298.out) hb)
        have n2_ := Aq.mk (zw (g := gb281) (o := .cells #[.string a0_0, .string a0_1, .string a0_2, .string a0_3, .slice A0_4 l0_4.length c0_4, .string a0_5] 24 (0, 0)) (by (with_reducible repeat (first | refine zg ?_ _ | refine zi ?_ | refine zh ?_ _)); exact BK281.out) hb)
        have n3_ := Aq.mk (zw (g := gb291) (o := .cells #[.string t282, .string t283, .string t284, .string t285, .slice Ao25 t286.length co25, .string t289] 24 (0, 0)) (by (with_reducible repeat (first | refine zg ?_ _ | refine zi ?_ | refine zh ?_ _)); exact BK291.out) hb)
        have n4_ := Aq.mk (zw (g := gb301) (o := .cells #[.string t292, .string t293, .string t294, .string t295, .slice Ao32 t296.length co32, .string t299] 24 (0, 0)) (by (with_reducible repeat (first | refine zg ?_ _ | refine zi ?_ | refine zh ?_ _)); exact BK301.out) hb)
        have n5_ := Aq.mk (zv (by repeat (with_reducible first | exact HB.out | apply zd | apply zb | apply zc | refine zf ?_ GE281.out | refine zf ?_ GE291.out | refine zf ?_ GE301.out)) hb)
        clear HO288
        clear HO298
        clear BK281
        clear BK291
        clear BK301
        clear HB
        have HO288 := n0_
        have HO298 := n1_
        have BK281 := n2_
        have BK291 := n3_
        have BK301 := n4_
        have HB := n5_
        clear n0_ n1_ n2_ n3_ n4_ n5_
        (try clear hb)
        (try clear hb2)
        (try clear hk)
        (try clear hi)
        refine hK.out _ _ ⟨(ze BK281.out 0).trans rfl, (ze BK281.out 1).trans rfl, (ze BK281.out 2).trans rfl, (ze BK281.out 3).trans rfl, (ze BK281.out 4).trans rfl, (ze BK281.out 5).trans rfl, (ze BK301.out 0).trans rfl, (ze BK301.out 1).trans rfl, (ze BK301.out 2).trans rfl, (ze BK301.out 3).trans rfl, (ze BK301.out 4).trans rfl, (ze BK301.out 5).trans rfl, (ze BK291.out 0).trans rfl, (ze BK291.out 1).trans rfl, (ze BK291.out 2).trans rfl, (ze BK291.out 3).trans rfl, (ze BK291.out 4).trans rfl, (ze BK291.out 5).trans rfl⟩ (fun hHeld => ?_)
        clear hK K
        refine norm_ (a' := ?_) ?_ ?_
        rotate_left
        ·show Act.put _ (some 46) _ = _
         simp only [Act.put, zJ, zK, zL, i64_w, i32_w]
         rfl
        refine one_ (i := 3) (N := some 48) #[true, true, true, true, false, false, false, false, false, false, false, false, false, false, false, false, false, false, false, false, false, false, false, false, false, false, false, false, false, false, false, false, false, false, false, false, false, false, false] rfl rfl (one_of HT_.out (by kernel_rfl)) (by decide) (fun K hK => ?_)
        refine goes_ Tryd.func26 (by kernel_rfl) rfl #[.agg #[.string a0_0, .string a0_1, .string a0_2, .string a0_3, .slice A0_4 l0_4.length c0_4, .string a0_5]] (by rfl) rfl rfl (by (try simp only [zP, zQ, zR]); first | done | rfl | (simp only [zS, zT]; rfl)) ?_
        with_reducible refine (purl_Check.calls k a0_0 a0_1 a0_2 a0_3 _ _ l0_4 a0_5 t311 _ ?side1 ?side2 A9.out).mono ?_
        (case side1 => repeat (first | exact (Kd.C_below HR0_4.out HB.out) | (with_reducible refine zF ?_ _) | (with_reducible refine zE ?_ _) | (with_reducible refine zG ?_)))
        (case side2 => exact HC0_4.out)
        rintro e w43 ⟨rfl, hb⟩
        refine ⟨_, rfl, ?_⟩
        have n0_ := Aq.mk (yj (by (with_reducible repeat (first | apply zC | apply zB | apply zD)); exact HO288.out) hb)
        have n1_ := Aq.mk (yj (by (with_reducible repeat (first | apply zC | apply zB | apply zD)); exact HO298.out) hb)
        have n2_ := Aq.mk (zw (g := gb281) (o := .cells #[.string a0_0, .string a0_1, .string a0_2, .string a0_3, .slice A0_4 l0_4.length c0_4, .string a0_5] 24 (0, 0)) (by (with_reducible repeat (first | refine zg ?_ _ | refine zi ?_ | refine zh ?_ _)); exact BK281.out) hb)
        have n3_ := Aq.mk (zw (g := gb291) (o := .cells #[.string t282, .string t283, .string t284, .string t285, .slice Ao25 t286.length co25, .string t289] 24 (0, 0)) (by (with_reducible repeat (first | refine zg ?_ _ | refine zi ?_ | refine zh ?_ _)); exact BK291.out) hb)
        have n4_ := Aq.mk (zw (g := gb301) (o := .cells #[.string t292, .string t293, .string t294, .string t295, .slice Ao32 t296.length co32, .string t299] 24 (0, 0)) (by (with_reducible repeat (first | refine zg ?_ _ | refine zi ?_ | refine zh ?_ _)); exact BK301.out) hb)
        have n5_ := Aq.mk (zv (by repeat (with_reducible first | exact HB.out | apply zd | apply zb | apply zc | refine zf ?_ GE281.out | refine zf ?_ GE291.out | refine zf ?_ GE301.out)) hb)
        clear HO288
        clear HO298
        clear BK281
        clear BK291
        clear BK301
        clear HB
        have HO288 := n0_
        have HO298 := n1_
        have BK281 := n2_
        have BK291 := n3_
        have BK301 := n4_
        have HB := n5_
        clear n0_ n1_ n2_ n3_ n4_ n5_
        (try clear hb)
        (try clear hb2)
        (try clear hk)
        (try clear hi)
        refine hK.out _ _ ⟨(ze BK281.out 0).trans rfl, (ze BK281.out 1).trans rfl, (ze BK281.out 2).trans rfl, (ze BK281.out 3).trans rfl, (ze BK281.out 4).trans rfl, (ze BK281.out 5).trans rfl, (ze BK301.out 0).trans rfl, (ze BK301.out 1).trans rfl, (ze BK301.out 2).trans rfl, (ze BK301.out 3).trans rfl, (ze BK301.out 4).trans rfl, (ze BK301.out 5).trans rfl, (ze BK291.out 0).trans rfl, (ze BK291.out 1).trans rfl, (ze BK291.out 2).trans rfl, (ze BK291.out 3).trans rfl, (ze BK291.out 4).trans rfl, (ze BK291.out 5).trans rfl⟩ (fun hHeld => ?_)
        clear hK K
        refine norm_ (a' := ?_) ?_ ?_
        rotate_left
        ·show Act.put _ (some 48) _ = _
         simp only [Act.put, zJ, zK, zL, i64_w, i32_w]
         rfl
        refine pure_ (i := 4) (N := some 49) (v := ?_) (a' := ?_) #[true, true, true, true, true, false, false, false, false, false, false, false, false, false, false, false, false, false, false, false, false, false, false, false, false, false, false, false, false, false, false, false, false, false, false, false, false, false, false] rfl rfl (any_of HT_.out (by kernel_rfl)) (fun _ _ _ h => h) (Or.inl ⟨by rfl, ?_⟩) ?_ ?_
        rotate_left
        ·intro w'
         go_simp
         with_reducible rfl
        rotate_left
        ·simp only [Act.put, zJ, zK, zL, i64_w, i32_w]
         rfl
        refine pure_ (i := 5) (N := some 50) (v := ?_) (a' := ?_) #[true, true, true, true, true, true, false, false, false, false, false, false, false, false, false, false, false, false, false, false, false, false, false, false, false, false, false, false, false, false, false, false, false, false, false, false, false, false, false] rfl rfl (any_of HT_.out (by kernel_rfl)) (fun _ _ _ h => h) (Or.inl ⟨by rfl, ?_⟩) ?_ ?_
        rotate_left
        ·intro w'
         go_simp
         with_reducible rfl
        rotate_left
        ·simp only [Act.put, zJ, zK, zL, i64_w, i32_w]
         rfl
        refine take_ (i := 6) (N := some 51) (v := ?_) (a' := ?_) #[true, true, true, true, true, true, true, false, false, false, false, false, false, false, false, false, false, false, false, false, false, false, false, false, false, false, false, false, false, false, false, false, false, false, false, false, false, false, false] rfl rfl (take_ofW HT_.out HW_.out (by kernel_rfl)) (fun _ _ _ h => h) (Or.inl ⟨by rfl, ?_⟩) hHeld ?_ ?_
        rotate_left
        ·rintro w' ⟨s0, s1, s2, s3, s4, s5, s6, s7, s8, s9, s10, s11, s12, s13, s14, s15, s16, s17⟩
         go_simp
         with_reducible rfl
        rotate_left
        ·simp only [Act.put, zJ, zK, zL, i64_w, i32_w]
         rfl
        refine take_ (i := 7) (N := some 52) (v := ?_) (a' := ?_) #[true, true, true, true, true, true, true, true, false, false, false, false, false, false, false, false, false, false, false, false, false, false, false, false, false, false, false, false, false, false, false, false, false, false, false, false, false, false, false] rfl rfl (take_ofW HT_.out HW_.out (by kernel_rfl)) (fun _ _ _ h => h) (Or.inl ⟨by rfl, ?_⟩) hHeld ?_ ?_
        rotate_left
        ·rintro w' ⟨s0, s1, s2, s3, s4, s5, s6, s7, s8, s9, s10, s11, s12, s13, s14, s15, s16, s17⟩
         go_simp
         with_reducible rfl
        rotate_left
        ·simp only [Act.put, zJ, zK, zL, i64_w, i32_w]
         rfl
        refine one_ (i := 8) (N := some 53) #[true, true, true, true, true, true, true, true, true, false, false, false, false, false, false, false, false, false, false, false, false, false, false, false, false, false, false, false, false, false, false, false, false, false, false, false, false, false, false] rfl rfl (one_of HT_.out (by kernel_rfl)) (by decide) (fun K hK => ?_)
        refine goes_ Tryd.func12 (by kernel_rfl) rfl #[.agg #[.string t292, .string t293, .string t294, .string t295, .slice Ao32 t296.length co32, .string t299], .agg #[.string t282, .string t283, .string t284, .string t285, .slice Ao25 t286.length co25, .string t289]] (by rfl) rfl rfl (by (try simp only [zP, zQ, zR]); first | done | rfl | (simp only [zS, zT]; rfl)) ?_
        with_reducible refine (l2_same.calls k t292 t293 t294 t295 _ _ t296 t299 t282 t283 t284 t285 _ _ t286 t289 true _ ?side1 ?side2 ?side3 ?side4 A11.out).mono ?_
        (case side1 => repeat (first | exact (Kd.R_reads' HO298.out).2.2 | (with_reducible refine zF ?_ _) | (with_reducible refine zE ?_ _) | (with_reducible refine zG ?_)))
        (case side2 => exact (Kd.R_reads' HO298.out).2.1)
        (case side3 => repeat (first | exact (Kd.R_reads' HO288.out).2.2 | (with_reducible refine zF ?_ _) | (with_reducible refine zE ?_ _) | (with_reducible refine zG ?_)))
        (case side4 => exact (Kd.R_reads' HO288.out).2.1)
        rintro e w44 ⟨rfl, hb⟩
        refine ⟨_, rfl, ?_⟩
        have n0_ := Aq.mk (yj (by (with_reducible repeat (first | apply zC | apply zB | apply zD)); exact HO288.out) hb)
        have n1_ := Aq.mk (yj (by (with_reducible repeat (first | apply zC | apply zB | apply zD)); exact HO298.out) hb)
        have n2_ := Aq.mk (zw (g := gb281) (o := .cells #[.string a0_0, .string a0_1, .string a0_2, .string a0_3, .slice A0_4 l0_4.length c0_4, .string a0_5] 24 (0, 0)) (by (with_reducible repeat (first | refine zg ?_ _ | refine zi ?_ | refine zh ?_ _)); exact BK281.out) hb)
        have n3_ := Aq.mk (zw (g := gb291) (o := .cells #[.string t282, .string t283, .string t284, .string t285, .slice Ao25 t286.length co25, .string t289] 24 (0, 0)) (by (with_reducible repeat (first | refine zg ?_ _ | refine zi ?_ | refine zh ?_ _)); exact BK291.out) hb)
        have n4_ := Aq.mk (zw (g := gb301) (o := .cells #[.string t292, .string t293, .string t294, .string t295, .slice Ao32 t296.length co32, .string t299] 24 (0, 0)) (by (with_reducible repeat (first | refine zg ?_ _ | refine zi ?_ | refine zh ?_ _)); exact BK301.out) hb)
        have n5_ := Aq.mk (zv (by repeat (with_reducible first | exact HB.out | apply zd | apply zb | apply zc | refine zf ?_ GE281.out | refine zf ?_ GE291.out | refine zf ?_ GE301.out)) hb)
        clear HO288
        clear HO298
        clear BK281
        clear BK291
        clear BK301
        clear HB
        have HO288 := n0_
        have HO298 := n1_
        have BK281 := n2_
        have BK291 := n3_
        have BK301 := n4_
        have HB := n5_
        clear n0_ n1_ n2_ n3_ n4_ n5_
        (try clear hb)
        (try clear hb2)
        (try clear hk)
        (try clear hi)
        refine hK.out _ _ ⟨(ze BK281.out 0).trans rfl, (ze BK281.out 1).trans rfl, (ze BK281.out 2).trans rfl, (ze BK281.out 3).trans rfl, (ze BK281.out 4).trans rfl, (ze BK281.out 5).trans rfl, (ze BK301.out 0).trans rfl, (ze BK301.out 1).trans rfl, (ze BK301.out 2).trans rfl, (ze BK301.out 3).trans rfl, (ze BK301.out 4).trans rfl, (ze BK301.out 5).trans rfl, (ze BK291.out 0).trans rfl, (ze BK291.out 1).trans rfl, (ze BK291.out 2).trans rfl, (ze BK291.out 3).trans rfl, (ze BK291.out 4).trans rfl, (ze BK291.out 5).trans rfl⟩ (fun hHeld => ?_)
        clear hK K
        refine norm_ (a' := ?_) ?_ ?_
        rotate_left
        ·show Act.put _ (some 53) _ = _
         simp only [Act.put, zJ, zK, zL, i64_w, i32_w]
         rfl
        refine pure_ (i := 9) (N := some 54) (v := ?_) (a' := ?_) #[true, true, true, true, true, true, true, true, true, true, false, false, false, false, false, false, false, false, false, false, false, false, false, false, false, false, false, false, false, false, false, false, false, false, false, false, false, false, false] rfl rfl (any_of HT_.out (by kernel_rfl)) (fun _ _ _ h => h) (Or.inl ⟨by rfl, ?_⟩) ?_ ?_
        rotate_left
        ·intro w'
         go_simp
         with_reducible rfl
        rotate_left
        ·simp only [Act.put, zJ, zK, zL, i64_w, i32_w]
         rfl
        refine pure_ (i := 10) (N := some 55) (v := ?_) (a' := ?_) #[true, true, true, true, true, true, true, true, true, true, true, false, false, false, false, false, false, false, false, false, false, false, false, false, false, false, false, false, false, false, false, false, false, false, false, false, false, false, false] rfl rfl (any_of HT_.out (by kernel_rfl)) (fun _ _ _ h => h) (Or.inl ⟨by rfl, ?_⟩) ?_ ?_
        rotate_left
        ·intro w'
         go_simp
         with_reducible rfl
        rotate_left
        ·simp only [Act.put, zJ, zK, zL, i64_w, i32_w]
         rfl
        refine pure_ (i := 11) (N := some 56) (v := ?_) (a' := ?_) #[true, true, true, true, true, true, true, true, true, true, true, true, false, false, false, false, false, false, false, false, false, false, false, false, false, false, false, false, false, false, false, false, false, false, false, false, false, false, false] rfl rfl (any_of HT_.out (by kernel_rfl)) (fun _ _ _ h => h) (Or.inl ⟨by rfl, ?_⟩) ?_ ?_
        rotate_left
        ·intro w'
         go_simp
         with_reducible rfl
        rotate_left
        ·simp only [Act.put, zJ, zK, zL, i64_w, i32_w]
         rfl
        refine pure_ (i := 12) (N := some 57) (v := ?_) (a' := ?_) #[true, true, true, true, true, true, true, true, true, true, true, true, true, false, false, false, false, false, false, false, false, false, false, false, false, false, false, false, false, false, false, false, false, false, false, false, false, false, false] rfl rfl (any_of HT_.out (by kernel_rfl)) (fun _ _ _ h => h) (Or.inl ⟨by rfl, ?_⟩) ?_ ?_
        rotate_left
        ·intro w'
         go_simp
         with_reducible rfl
        rotate_left
        ·simp only [Act.put, zJ, zK, zL, i64_w, i32_w]
         rfl
        refine pure_ (i := 13) (N := some 58) (v := ?_) (a' := ?_) #[true, true, true, true, true, true, true, true, true, true, true, true, true, true, false, false, false, false, false, false, false, false, false, false, false, false, false, false, false, false, false, false, false, false, false, false, false, false, false] rfl rfl (any_of HT_.out (by kernel_rfl)) (fun _ _ _ h => h) (Or.inl ⟨by rfl, ?_⟩) ?_ ?_
        rotate_left
        ·intro w'
         go_simp
         with_reducible rfl
        rotate_left
        ·simp only [Act.put, zJ, zK, zL, i64_w, i32_w]
         rfl
        refine pure_ (i := 14) (N := some 59) (v := ?_) (a' := ?_) #[true, true, true, true, true, true, true, true, true, true, true, true, true, true, true, false, false, false, false, false, false, false, false, false, false, false, false, false, false, false, false, false, false, false, false, false, false, false, false] rfl rfl (any_of HT_.out (by kernel_rfl)) (fun _ _ _ h => h) (Or.inl ⟨by rfl, ?_⟩) ?_ ?_
        rotate_left
        ·intro w'
         go_simp
         with_reducible rfl
        rotate_left
        ·simp only [Act.put, zJ, zK, zL, i64_w, i32_w]
         rfl
        refine pure_ (i := 15) (N := some 60) (v := ?_) (a' := ?_) #[true, true, true, true, true, true, true, true, true, true, true, true, true, true, true, true, false, false, false, false, false, false, false, false, false, false, false, false, false, false, false, false, false, false, false, false, false, false, false] rfl rfl (any_of HT_.out (by kernel_rfl)) (fun _ _ _ h => h) (Or.inl ⟨by rfl, ?_⟩) ?_ ?_
        rotate_left
        ·intro w'
         go_simp
         with_reducible rfl
        rotate_left
        ·simp only [Act.put, zJ, zK, zL, i64_w, i32_w]
         rfl
        refine pure_ (i := 16) (N := some 61) (v := ?_) (a' := ?_) #[true, true, true, true, true, true, true, true, true, true, true, true, true, true, true, true, true, false, false, false, false, false, false, false, false, false, false, false, false, false, false, false, false, false, false, false, false, false, false] rfl rfl (any_of HT_.out (by kernel_rfl)) (fun _ _ _ h => h) (Or.inl ⟨by rfl, ?_⟩) ?_ ?_
        rotate_left
        ·intro w'
         go_simp
         with_reducible rfl
        rotate_left
        ·simp only [Act.put, zJ, zK, zL, i64_w, i32_w]
         rfl
        refine pure_ (i := 17) (N := some 62) (v := ?_) (a' := ?_) #[true, true, true, true, true, true, true, true, true, true, true, true, true, true, true, true, true, true, false, false, false, false, false, false, false, false, false, false, false, false, false, false, false, false, false, false, false, false, false] rfl rfl (any_of HT_.out (by kernel_rfl)) (fun _ _ _ h => h) (Or.inl ⟨by rfl, ?_⟩) ?_ ?_
        rotate_left
        ·intro w'
         go_simp
         with_reducible rfl
        rotate_left
        ·simp only [Act.put, zJ, zK, zL, i64_w, i32_w]
         rfl
        refine pure_ (i := 18) (N := some 63) (v := ?_) (a' := ?_) #[true, true, true, true, true, true, true, true, true, true, true, true, true, true, true, true, true, true, true, false, false, false, false, false, false, false, false, false, false, false, false, false, false, false, false, false, false, false, false] rfl rfl (any_of HT_.out (by kernel_rfl)) (fun _ _ _ h => h) (Or.inl ⟨by rfl, ?_⟩) ?_ ?_
        rotate_left
        ·intro w'
         go_simp
         with_reducible rfl
        rotate_left
        ·simp only [Act.put, zJ, zK, zL, i64_w, i32_w]
         rfl
        refine pure_ (i := 19) (N := some 64) (v := ?_) (a' := ?_) #[true, true, true, true, true, true, true, true, true, true, true, true, true, true, true, true, true, true, true, true, false, false, false, false, false, false, false, false, false, false, false, false, false, false, false, false, false, false, false] rfl rfl (any_of HT_.out (by kernel_rfl)) (fun _ _ _ h => h) (Or.inl ⟨by rfl, ?_⟩) ?_ ?_
        rotate_left
        ·intro w'
         go_simp
         with_reducible rfl
        rotate_left
        ·simp only [Act.put, zJ, zK, zL, i64_w, i32_w]
         rfl
        refine pure_ (i := 20) (N := some 65) (v := ?_) (a' := ?_) #[true, true, true, true, true, true, true, true, true, true, true, true, true, true, true, true, true, true, true, true, true, false, false, false, false, false, false, false, false, false, false, false, false, false, false, false, false, false, false] rfl rfl (any_of HT_.out (by kernel_rfl)) (fun _ _ _ h => h) (Or.inl ⟨by rfl, ?_⟩) ?_ ?_
        rotate_left
        ·intro w'
         go_simp
         with_reducible rfl
        rotate_left
        ·simp only [Act.put, zJ, zK, zL, i64_w, i32_w]
         rfl
        refine pure_ (i := 21) (N := some 66) (v := ?_) (a' := ?_) #[true, true, true, true, true, true, true, true, true, true, true, true, true, true, true, true, true, true, true, true, true, true, false, false, false, false, false, false, false, false, false, false, false, false, false, false, false, false, false] rfl rfl (any_of HT_.out (by kernel_rfl)) (fun _ _ _ h => h) (Or.inl ⟨by rfl, ?_⟩) ?_ ?_
        rotate_left
        ·intro w'
         go_simp
         with_reducible rfl
        rotate_left
        ·simp only [Act.put, zJ, zK, zL, i64_w, i32_w]
         rfl
        refine pure_ (i := 22) (N := some 67) (v := ?_) (a' := ?_) #[true, true, true, true, true, true, true, true, true, true, true, true, true, true, true, true, true, true, true, true, true, true, true, false, false, false, false, false, false, false, false, false, false, false, false, false, false, false, false] rfl rfl (any_of HT_.out (by kernel_rfl)) (fun _ _ _ h => h) (Or.inl ⟨by rfl, ?_⟩) ?_ ?_
        rotate_left
        ·intro w'
         go_simp
         with_reducible rfl
        rotate_left
        ·simp only [Act.put, zJ, zK, zL, i64_w, i32_w]
         rfl
        refine pure_ (i := 23) (N := some 68) (v := ?_) (a' := ?_) #[true, true, true, true, true, true, true, true, true, true, true, true, true, true, true, true, true, true, true, true, true, true, true, true, false, false, false, false, false, false, false, false, false, false, false, false, false, false, false] rfl rfl (any_of HT_.out (by kernel_rfl)) (fun _ _ _ h => h) (Or.inl ⟨by rfl, ?_⟩) ?_ ?_
        rotate_left
        ·intro w'
         go_simp
         with_reducible rfl
        rotate_left
        ·simp only [Act.put, zJ, zK, zL, i64_w, i32_w]
         rfl
        refine pure_ (i := 24) (N := some 69) (v := ?_) (a' := ?_) #[true, true, true, true, true, true, true, true, true, true, true, true, true, true, true, true, true, true, true, true, true, true, true, true, true, false, false, false, false, false, false, false, false, false, false, false, false, false, false] rfl rfl (any_of HT_.out (by kernel_rfl)) (fun _ _ _ h => h) (Or.inl ⟨by rfl, ?_⟩) ?_ ?_
        rotate_left
        ·intro w'
         go_simp
         with_reducible rfl
        rotate_left
        ·simp only [Act.put, zJ, zK, zL, i64_w, i32_w]
         rfl
        refine pure_ (i := 25) (N := some 70) (v := ?_) (a' := ?_) #[true, true, true, true, true, true, true, true, true, true, true, true, true, true, true, true, true, true, true, true, true, true, true, true, true, true, false, false, false, false, false, false, false, false, false, false, false, false, false] rfl rfl (any_of HT_.out (by kernel_rfl)) (fun _ _ _ h => h) (Or.inl ⟨by rfl, ?_⟩) ?_ ?_
        rotate_left
        ·intro w'
         go_simp
         with_reducible rfl
        rotate_left
        ·simp only [Act.put, zJ, zK, zL, i64_w, i32_w]
         rfl
        refine pure_ (i := 26) (N := some 71) (v := ?_) (a' := ?_) #[true, true, true, true, true, true, true, true, true, true, true, true, true, true, true, true, true, true, true, true, true, true, true, true, true, true, true, false, false, false, false, false, false, false, false, false, false, false, false] rfl rfl (any_of HT_.out (by kernel_rfl)) (fun _ _ _ h => h) (Or.inl ⟨by rfl, ?_⟩) ?_ ?_
        rotate_left
        ·intro w'
         go_simp
         with_reducible rfl
        rotate_left
        ·simp only [Act.put, zJ, zK, zL, i64_w, i32_w]
         rfl
        refine pure_ (i := 27) (N := some 72) (v := ?_) (a' := ?_) #[true, true, true, true, true, true, true, true, true, true, true, true, true, true, true, true, true, true, true, true, true, true, true, true, true, true, true, true, false, false, false, false, false, false, false, false, false, false, false] rfl rfl (any_of HT_.out (by kernel_rfl)) (fun _ _ _ h => h) (Or.inl ⟨by rfl, ?_⟩) ?_ ?_
        rotate_left
        ·intro w'
         go_simp
         with_reducible rfl
        rotate_left
        ·simp only [Act.put, zJ, zK, zL, i64_w, i32_w]
         rfl
        refine pure_ (i := 28) (N := some 73) (v := ?_) (a' := ?_) #[true, true, true, true, true, true, true, true, true, true, true, true, true, true, true, true, true, true, true, true, true, true, true, true, true, true, true, true, true, false, false, false, false, false, false, false, false, false, false] rfl rfl (any_of HT_.out (by kernel_rfl)) (fun _ _ _ h => h) (Or.inl ⟨by rfl, ?_⟩) ?_ ?_
        rotate_left
        ·intro w'
         go_simp
         with_reducible rfl
        rotate_left
        ·simp only [Act.put, zJ, zK, zL, i64_w, i32_w]
         rfl
        refine pure_ (i := 29) (N := some 74) (v := ?_) (a' := ?_) #[true, true, true, true, true, true, true, true, true, true, true, true, true, true, true, true, true, true, true, true, true, true, true, true, true, true, true, true, true, true, false, false, false, false, false, false, false, false, false] rfl rfl (any_of HT_.out (by kernel_rfl)) (fun _ _ _ h => h) (Or.inl ⟨by rfl, ?_⟩) ?_ ?_
        rotate_left
        ·intro w'
         go_simp
         with_reducible rfl
        rotate_left
        ·simp only [Act.put, zJ, zK, zL, i64_w, i32_w]
         rfl
        refine pure_ (i := 30) (N := some 75) (v := ?_) (a' := ?_) #[true, true, true, true, true, true, true, true, true, true, true, true, true, true, true, true, true, true, true, true, true, true, true, true, true, true, true, true, true, true, true, false, false, false, false, false, false, false, false] rfl rfl (any_of HT_.out (by kernel_rfl)) (fun _ _ _ h => h) (Or.inl ⟨by rfl, ?_⟩) ?_ ?_
        rotate_left
        ·intro w'
         go_simp
         with_reducible rfl
        rotate_left
        ·simp only [Act.put, zJ, zK, zL, i64_w, i32_w]
         rfl
        refine pure_ (i := 31) (N := some 76) (v := ?_) (a' := ?_) #[true, true, true, true, true, true, true, true, true, true, true, true, true, true, true, true, true, true, true, true, true, true, true, true, true, true, true, true, true, true, true, true, false, false, false, false, false, false, false] rfl rfl (any_of HT_.out (by kernel_rfl)) (fun _ _ _ h => h) (Or.inl ⟨by rfl, ?_⟩) ?_ ?_
        rotate_left
        ·intro w'
         go_simp
         with_reducible rfl
        rotate_left
        ·simp only [Act.put, zJ, zK, zL, i64_w, i32_w]
         rfl
        refine pure_ (i := 32) (N := some 77) (v := ?_) (a' := ?_) #[true, true, true, true, true, true, true, true, true, true, true, true, true, true, true, true, true, true, true, true, true, true, true, true, true, true, true, true, true, true, true, true, true, false, false, false, false, false, false] rfl rfl (any_of HT_.out (by kernel_rfl)) (fun _ _ _ h => h) (Or.inl ⟨by rfl, ?_⟩) ?_ ?_
        rotate_left
        ·intro w'
         go_simp
         with_reducible rfl
        rotate_left
        ·simp only [Act.put, zJ, zK, zL, i64_w, i32_w]
         rfl
        refine pure_ (i := 33) (N := some 78) (v := ?_) (a' := ?_) #[true, true, true, true, true, true, true, true, true, true, true, true, true, true, true, true, true, true, true, true, true, true, true, true, true, true, true, true, true, true, true, true, true, true, false, false, false, false, false] rfl rfl (any_of HT_.out (by kernel_rfl)) (fun _ _ _ h => h) (Or.inl ⟨by rfl, ?_⟩) ?_ ?_
        rotate_left
        ·intro w'
         go_simp
         with_reducible rfl
        rotate_left
        ·simp only [Act.put, zJ, zK, zL, i64_w, i32_w]
         rfl
        refine pure_ (i := 34) (N := some 79) (v := ?_) (a' := ?_) #[true, true, true, true, true, true, true, true, true, true, true, true, true, true, true, true, true, true, true, true, true, true, true, true, true, true, true, true, true, true, true, true, true, true, true, false, false, false, false] rfl rfl (any_of HT_.out (by kernel_rfl)) (fun _ _ _ h => h) (Or.inl ⟨by rfl, ?_⟩) ?_ ?_
        rotate_left
        ·intro w'
         go_simp
         with_reducible rfl
        rotate_left
        ·simp only [Act.put, zJ, zK, zL, i64_w, i32_w]
         rfl
        refine pure_ (i := 35) (N := some 80) (v := ?_) (a' := ?_) #[true, true, true, true, true, true, true, true, true, true, true, true, true, true, true, true, true, true, true, true, true, true, true, true, true, true, true, true, true, true, true, true, true, true, true, true, false, false, false] rfl rfl (any_of HT_.out (by kernel_rfl)) (fun _ _ _ h => h) (Or.inl ⟨by rfl, ?_⟩) ?_ ?_
        rotate_left
        ·intro w'
         go_simp
         with_reducible rfl
        rotate_left
        ·simp only [Act.put, zJ, zK, zL, i64_w, i32_w]
         rfl
        refine one_ (i := 36) (N := some 81) #[true, true, true, true, true, true, true, true, true, true, true, true, true, true, true, true, true, true, true, true, true, true, true, true, true, true, true, true, true, true, true, true, true, true, true, true, true, false, false] rfl rfl (one_of HT_.out (by kernel_rfl)) (by decide) (fun K hK => ?_)
        refine goes_ Tryd.func13 (by kernel_rfl) rfl #[] (by rfl) rfl rfl (by (try simp only [zP, zQ, zR]); first | done | rfl | (simp only [zS, zT]; rfl)) ?_
        with_reducible refine (l2_told.calls k  t313 _ A18.out).mono ?_
        rintro e w45 ⟨rfl, hb⟩
        refine ⟨_, rfl, ?_⟩
        have n0_ := Aq.mk (yj (by (with_reducible repeat (first | apply zC | apply zB | apply zD)); exact HO288.out) hb)
        have n1_ := Aq.mk (yj (by (with_reducible repeat (first | apply zC | apply zB | apply zD)); exact HO298.out) hb)
        have n2_ := Aq.mk (zw (g := gb281) (o := .cells #[.string a0_0, .string a0_1, .string a0_2, .string a0_3, .slice A0_4 l0_4.length c0_4, .string a0_5] 24 (0, 0)) (by (with_reducible repeat (first | refine zg ?_ _ | refine zi ?_ | refine zh ?_ _)); exact BK281.out) hb)
        have n3_ := Aq.mk (zw (g := gb291) (o := .cells #[.string t282, .string t283, .string t284, .string t285, .slice Ao25 t286.length co25, .string t289] 24 (0, 0)) (by (with_reducible repeat (first | refine zg ?_ _ | refine zi ?_ | refine zh ?_ _)); exact BK291.out) hb)
        have n4_ := Aq.mk (zw (g := gb301) (o := .cells #[.string t292, .string t293, .string t294, .string t295, .slice Ao32 t296.length co32, .string t299] 24 (0, 0)) (by (with_reducible repeat (first | refine zg ?_ _ | refine zi ?_ | refine zh ?_ _)); exact BK301.out) hb)
        have n5_ := Aq.mk (zv (by repeat (with_reducible first | exact HB.out | apply zd | apply zb | apply zc | refine zf ?_ GE281.out | refine zf ?_ GE291.out | refine zf ?_ GE301.out)) hb)
        clear HO288
        clear HO298
        clear BK281
        clear BK291
        clear BK301
        clear HB
        have HO288 := n0_
        have HO298 := n1_
        have BK281 := n2_
        have BK291 := n3_
        have BK301 := n4_
        have HB := n5_
        clear n0_ n1_ n2_ n3_ n4_ n5_
        (try clear hb)
        (try clear hb2)
        (try clear hk)
        (try clear hi)
        refine hK.out _ _ ⟨(ze BK281.out 0).trans rfl, (ze BK281.out 1).trans rfl, (ze BK281.out 2).trans rfl, (ze BK281.out 3).trans rfl, (ze BK281.out 4).trans rfl, (ze BK281.out 5).trans rfl, (ze BK301.out 0).trans rfl, (ze BK301.out 1).trans rfl, (ze BK301.out 2).trans rfl, (ze BK301.out 3).trans rfl, (ze BK301.out 4).trans rfl, (ze BK301.out 5).trans rfl, (ze BK291.out 0).trans rfl, (ze BK291.out 1).trans rfl, (ze BK291.out 2).trans rfl, (ze BK291.out 3).trans rfl, (ze BK291.out 4).trans rfl, (ze BK291.out 5).trans rfl⟩ (fun hHeld => ?_)
        clear hK K
        refine norm_ (a' := ?_) ?_ ?_
        rotate_left
        ·show Act.put _ (some 81) _ = _
         simp only [Act.put, zJ, zK, zL, i64_w, i32_w]
         rfl
        refine pure_ (i := 37) (N := some 82) (v := ?_) (a' := ?_) #[true, true, true, true, true, true, true, true, true, true, true, true, true, true, true, true, true, true, true, true, true, true, true, true, true, true, true, true, true, true, true, true, true, true, true, true, true, true, false] rfl rfl (any_of HT_.out (by kernel_rfl)) (fun _ _ _ h => h) (Or.inl ⟨by rfl, ?_⟩) ?_ ?_
        rotate_left
        ·intro w'
         go_simp
         with_reducible rfl
        rotate_left
        ·simp only [Act.put, zJ, zK, zL, i64_w, i32_w]
         rfl
        refine pure_ (i := 38) (N := some 2) (v := ?_) (a' := ?_) #[true, true, true, true, true, true, true, true, true, true, true, true, true, true, true, true, true, true, true, true, true, true, true, true, true, true, true, true, true, true, true, true, true, true, true, true, true, true, true] rfl rfl (any_of HT_.out (by kernel_rfl)) (fun _ _ _ h => h) (Or.inl ⟨by rfl, ?_⟩) ?_ ?_
        rotate_left
        ·intro w'
         go_simp
         with_reducible rfl
        rotate_left
        ·simp only [Act.put, zJ, zK, zL, i64_w, i32_w]
         rfl
        refine done_ (done_of HT_.out (by kernel_rfl)) ?_
        try go_wp2
        go_ret
        exact ⟨by first | rfl | (simp [yl, ym] <;> rfl) | (simp [*, yl, ym] <;> rfl), by repeat (with_reducible first | exact HB.out | apply zd | apply zb | apply zc | refine zf ?_ GE281.out | refine zf ?_ GE291.out | refine zf ?_ GE301.out)⟩
       ·rw [if_neg c17] at H
        have c17b0 : (t309 == t307) = false := ye.mpr c17
        have c17b1 : (t309 != t307) = true := yd.mpr c17
        obtain rfl := yg H
        exact absurd hrt.out (by decide)
      ·rw [if_neg c16] at H
       have c16b0 : (t308.toList == t306.toList) = false := ye.mpr c16
       have c16b1 : (t308.toList != t306.toList) = true := yd.mpr c16
       obtain rfl := yg H
       exact absurd hrt.out (by decide)
     ·rw [if_neg c15] at H
      have c15b0 : (t305 == t303) = false := ye.mpr c15
      have c15b1 : (t305 != t303) = true := yd.mpr c15
      obtain rfl := yg H
      exact absurd hrt.out (by decide)
    ·rw [if_neg c14] at H
     have c14b0 : (t304.toList == t302.toList) = false := ye.mpr c14
     have c14b1 : (t304.toList != t302.toList) = true := yd.mpr c14
     obtain rfl := yg H
     exact absurd hrt.out (by decide)
   ·rw [if_neg c13] at H
    have c13b0 : (t300 == t290) = false := ye.mpr c13
    have c13b1 : (t300 != t290) = true := yd.mpr c13
    obtain rfl := yg H
    exact absurd hrt.out (by decide)
  ·replace c12 := Bool.eq_false_iff.mpr c12
   subst c12
   have H1 : (some false) = some r := by rw [if_neg (show ¬ (false = true) by decide)] at H; exact H
   clear H
   have H := H1
   clear H1
   obtain rfl := yg H
   exact absurd hrt.out (by decide)
 ·rw [if_neg c10] at H
  have c10b0 : (t310 == t311) = false := ye.mpr c10
  have c10b1 : (t310 != t311) = true := yd.mpr c10
  obtain rfl := yg H
  exact absurd hrt.out (by decide)
end Go.Proofs.YtmnfjbmhlabdaaaDoor.Pr
