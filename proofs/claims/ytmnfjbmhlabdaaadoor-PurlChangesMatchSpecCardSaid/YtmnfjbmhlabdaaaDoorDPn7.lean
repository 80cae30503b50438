-- Written by a program of the session (wip/pr.py) out of the translation; Lean checks it.
import Derived.Test.YtmnfjbmhlabdaaaDoorDXa
import Derived.Test.YtmnfjbmhlabdaaaDoorDEn
import Derived.Test.YtmnfjbmhlabdaaaDoorDEo
import Derived.Test.YtmnfjbmhlabdaaaDoorDEp
import Derived.Test.YtmnfjbmhlabdaaaDoorDEu
import Derived.Test.YtmnfjbmhlabdaaaDoorDE5
import Derived.Test.YtmnfjbmhlabdaaaDoorDPrx0
import Derived.Test.YtmnfjbmhlabdaaaDoorDPrx3
import Derived.Test.YtmnfjbmhlabdaaaDoorDEm
namespace Go.Proofs.YtmnfjbmhlabdaaaDoor.Pr
open Go.RowKit Go.Proofs.YtmnfjbmhlabdaaaDoorW.PrintWords Go.Proofs.YtmnfjbmhlabdaaaDoorW.PrintLast Go.Proofs.YtmnfjbmhlabdaaaDoorW.PrintMore
attribute [local go_sem] geq_s max2_int min2_int max_two min_two max_three min_three max_four min_four
set_option linter.unusedVariables false
set_option linter.unusedSimpArgs false
mutual
def r2_Qualified.l0 : Nat → ByteArray → ByteArray → Bool → List (S64) → Int → Int → ByteArray → ByteArray → ByteArray → ByteArray → List (S64) → ByteArray → Option (ByteArray × ByteArray × ByteArray × ByteArray × (List (S64)) × ByteArray × Int)
 | 0, _, _, _, _, _, _, _, _, _, _, _, _ => none
 | k + 1, x1, x2, x10, x24, x25, x26, x242000, x242001, x242002, x242003, x242004, x242005 => if x26 < x25 then (if 0 ≤ x26 then (if x26 < (x24.length : Int) then (if x10 = true then (r2_Qualified.j1 k x1 x2 x10 x24 x25 x26 false x242000 x242001 x242002 x242003 x242004 x242005 ((rd_T64 x24 x26).f0) ((rd_T64 x24 x26).f1)) else (r2_Qualified.j1 k x1 x2 x10 x24 x25 x26 (!(Op.bytesLess (((rd_T64 x24 x26).f0).toList) x1.toList)) x242000 x242001 x242002 x242003 x242004 x242005 ((rd_T64 x24 x26).f0) ((rd_T64 x24 x26).f1))) else (none)) else (none)) else (if x10 = true then ((r2_Canonical.f k x242000 x242001 x242002 x242003 x242004 x242005).bind fun bt242 => (some (bt242.1, bt242.2.1, bt242.2.2.1, bt242.2.2.2.1, bt242.2.2.2.2.1, bt242.2.2.2.2.2.1, bt242.2.2.2.2.2.2))) else (if x242004.length < 4398046511104 then ((r2_Canonical.f k x242000 x242001 x242002 x242003 (x242004 ++ [(⟨x1, x2⟩ : S64)]) x242005).bind fun bt254 => (some (bt254.1, bt254.2.1, bt254.2.2.1, bt254.2.2.2.1, bt254.2.2.2.2.1, bt254.2.2.2.2.2.1, bt254.2.2.2.2.2.2))) else (none)))
def r2_Qualified.j1 : Nat → ByteArray → ByteArray → Bool → List (S64) → Int → Int → Bool → ByteArray → ByteArray → ByteArray → ByteArray → List (S64) → ByteArray → ByteArray → ByteArray → Option (ByteArray × ByteArray × ByteArray × ByteArray × (List (S64)) × ByteArray × Int)
 | 0, _, _, _, _, _, _, _, _, _, _, _, _, _, _, _ => none
 | k + 1, x1, x2, x10, x24, x25, x26, x37, x242000, x242001, x242002, x242003, x242004, x242005, x265000, x265001 => if x37 = true then (if x242004.length < 4398046511104 then ((some (x242004 ++ [(⟨x1, x2⟩ : S64)] : List (S64))).bind fun y265 => (if x265000.toList = x1.toList then (r2_Qualified.l0 k x1 x2 true x24 x25 (wrap64 (x26 + 1)) x242000 x242001 x242002 x242003 y265 x242005) else (if y265.length < 4398046511104 then (r2_Qualified.l0 k x1 x2 true x24 x25 (wrap64 (x26 + 1)) x242000 x242001 x242002 x242003 (y265 ++ [(⟨x265000, x265001⟩ : S64)]) x242005) else (none)))) else (none)) else (if x265000.toList = x1.toList then (r2_Qualified.l0 k x1 x2 x10 x24 x25 (wrap64 (x26 + 1)) x242000 x242001 x242002 x242003 x242004 x242005) else (if x242004.length < 4398046511104 then (r2_Qualified.l0 k x1 x2 x10 x24 x25 (wrap64 (x26 + 1)) x242000 x242001 x242002 x242003 (x242004 ++ [(⟨x265000, x265001⟩ : S64)]) x242005) else (none)))
end
def r2_Qualified.f (k : Nat) (a0_0 : ByteArray) (a0_1 : ByteArray) (a0_2 : ByteArray) (a0_3 : ByteArray) (l0_4 : List (S64)) (a0_5 : ByteArray) (a1 : ByteArray) (a2 : ByteArray) : Option (ByteArray × ByteArray × ByteArray × ByteArray × (List (S64)) × ByteArray × Int) := (r2_Check.f k a0_0 a0_1 a0_2 a0_3 l0_4 a0_5).bind fun t240 => (if t240 = 0 then (r2_Qualified.l0 k a1 a2 (a2.toList == ([] : List UInt8)) l0_4 (l0_4.length : Int) 0 a0_0 a0_1 a0_2 a0_3 ([] : List (S64)) a0_5) else (some ((⟨#[]⟩ : ByteArray), (⟨#[]⟩ : ByteArray), (⟨#[]⟩ : ByteArray), (⟨#[]⟩ : ByteArray), ([] : List (S64)), (⟨#[]⟩ : ByteArray), t240)))
set_option maxHeartbeats 8000000 in
set_option maxRecDepth 100000 in
theorem r2_Qualified.calls (k : Nat) (a0_0 : ByteArray) (a0_1 : ByteArray) (a0_2 : ByteArray) (a0_3 : ByteArray) (A0_4 : Option Addr) (c0_4 : Nat) (l0_4 : List (S64)) (a0_5 : ByteArray) (a1 : ByteArray) (a2 : ByteArray) (r1 : ByteArray) (r2 : ByteArray) (r3 : ByteArray) (r4 : ByteArray) (r5 : List (S64)) (r6 : ByteArray) (r7 : Int) (w : World) (hr0_4 : Kd.C k64 w A0_4 l0_4.length l0_4) (hc0_4 : l0_4.length ≤ c0_4) (h : r2_Qualified.f k a0_0 a0_1 a0_2 a0_3 l0_4 a0_5 a1 a2 = some (r1, r2, r3, r4, r5, r6, r7)) :
  Calls Tryd.prog 29 #[.agg #[.string a0_0, .string a0_1, .string a0_2, .string a0_3, .slice A0_4 l0_4.length c0_4, .string a0_5], .string a1, .string a2] w fun e w' => ∃ v4_ : Value, e = .returned (.tuple #[.agg #[.string r1, .string r2, .string r3, .string r4, v4_, .string r6], .int .i64 r7]) ∧ Kd.R k64 64 w' w.heap.size (fun _ => True) v4_ r5 ∧ Below w.heap.size w w' := by
 have hu24 := Tryd.underlying24
 have hu64 := Tryd.underlying64
 have HR0_4 := Aq.mk hr0_4
 have HC0_4 := Aq.mk hc0_4
 clear hr0_4 hc0_4
 have HB := Aq.mk (Below.refl w.heap.size w)
 have H : ((r2_Check.f k a0_0 a0_1 a0_2 a0_3 l0_4 a0_5).bind fun t240 => (if t240 = 0 then (r2_Qualified.l0 k a1 a2 (a2.toList == ([] : List UInt8)) l0_4 (l0_4.length : Int) 0 a0_0 a0_1 a0_2 a0_3 ([] : List (S64)) a0_5) else (some ((⟨#[]⟩ : ByteArray), (⟨#[]⟩ : ByteArray), (⟨#[]⟩ : ByteArray), (⟨#[]⟩ : ByteArray), ([] : List (S64)), (⟨#[]⟩ : ByteArray), t240)))) = some (r1, r2, r3, r4, r5, r6, r7) := h
 clear h
 replace H := zu.mp H
 obtain ⟨t240, A40, H⟩ := H
 replace H : (if t240 = 0 then (r2_Qualified.l0 k a1 a2 (a2.toList == ([] : List UInt8)) l0_4 (l0_4.length : Int) 0 a0_0 a0_1 a0_2 a0_3 ([] : List (S64)) a0_5) else (some ((⟨#[]⟩ : ByteArray), (⟨#[]⟩ : ByteArray), (⟨#[]⟩ : ByteArray), (⟨#[]⟩ : ByteArray), ([] : List (S64)), (⟨#[]⟩ : ByteArray), t240))) = some (r1, r2, r3, r4, r5, r6, r7) := H
 have A4 := Aq.mk A40
 clear A40
 by_cases c5 : t240 = 0
 ·rw [if_pos c5] at H
  have c5b0 : (t240 == 0) = true := yc.mpr c5
  have c5b1 : (t240 != 0) = false := yf.mpr c5
  clear c5
  have H' := Aq.mk H
  clear H
  go_enter Tryd.func29, Tryd.ntmps29
  go_wp2_with (first | ((with_reducible refine gate_dst (N := 3) rfl ?_); refine box_event ?hg (N := 3) ?hd (cs := #[.string a0_0, .string a0_1, .string a0_2, .string a0_3, .slice A0_4 l0_4.length c0_4, .string a0_5]) (t := 24) ?hr ?_; (case hd => rfl); (case hg => rfl); (case hr => first | (go_simp; done) | (go_simp; rfl)); intro gb238 hg w6 hbox hb; have n0_ := Aq.mk (zv (by repeat (with_reducible first | exact HB.out | apply zd | apply zb | apply zc)) hb); have n1_ := Aq.mk (hbox); have n2_ := Aq.mk ((by rw [hg]; exact (zz (by repeat (with_reducible first | exact HB.out | apply zd | apply zb | apply zc))) : w.heap.size ≤ gb238)); have n3_ := Aq.mk ((by rw [hg]; exact (zz (by repeat (with_reducible first | exact HB.out | apply zd | apply zb | apply zc))) : w.heap.size ≤ gb238)); clear HB; have HB := n0_; have BK238 := n1_; have GW238 := n2_; have GE238 := n3_; clear n0_ n1_ n2_ n3_; clear hb hbox hg) | ((with_reducible refine gate_dst (N := 6) rfl ?_); refine box_event ?hg (N := 6) ?hd (cs := #[.string (⟨#[]⟩ : ByteArray), .string (⟨#[]⟩ : ByteArray), .string (⟨#[]⟩ : ByteArray), .string (⟨#[]⟩ : ByteArray), .slice none 0 0, .string (⟨#[]⟩ : ByteArray)]) (t := 24) ?hr ?_; (case hd => rfl); (case hg => rfl); (case hr => first | (go_simp; done) | (go_simp; rfl)); intro gb239 hg w7 hbox hb; have n0_ := Aq.mk (zw (g := gb238) (o := .cells #[.string a0_0, .string a0_1, .string a0_2, .string a0_3, .slice A0_4 l0_4.length c0_4, .string a0_5] 24 (0, 0)) (by (with_reducible repeat (first | refine zg ?_ _ | refine zi ?_ | refine zh ?_ _)); exact BK238.out) hb); have n1_ := Aq.mk (zv (by repeat (with_reducible first | exact HB.out | apply zd | apply zb | apply zc | refine zf ?_ GE238.out)) hb); have n2_ := Aq.mk (hbox); have n3_ := Aq.mk ((by rw [hg]; exact (zz (by repeat (with_reducible first | exact HB.out | apply zd | apply zb | apply zc | refine zf ?_ GE238.out))) : w.heap.size ≤ gb239)); have n4_ := Aq.mk ((by rw [hg]; exact (zz (by repeat (with_reducible first | exact HB.out | apply zd | apply zb | apply zc | refine zf ?_ GE238.out))) : w.heap.size ≤ gb239)); have n5_ := Aq.mk ((by rw [hg]; exact Nat.ne_of_lt (zA (g := gb238) (o := .cells #[.string a0_0, .string a0_1, .string a0_2, .string a0_3, .slice A0_4 l0_4.length c0_4, .string a0_5] 24 (0, 0)) (by (with_reducible repeat (first | refine zg ?_ _ | refine zi ?_ | refine zh ?_ _)); exact BK238.out)) : gb238 ≠ gb239)); have n6_ := Aq.mk ((by rw [hg]; exact Nat.ne_of_gt (zA (g := gb238) (o := .cells #[.string a0_0, .string a0_1, .string a0_2, .string a0_3, .slice A0_4 l0_4.length c0_4, .string a0_5] 24 (0, 0)) (by (with_reducible repeat (first | refine zg ?_ _ | refine zi ?_ | refine zh ?_ _)); exact BK238.out)) : gb239 ≠ gb238)); clear BK238; clear HB; have BK238 := n0_; have HB := n1_; have BK239 := n2_; have GW239 := n3_; have GE239 := n4_; have NB238_239 := n5_; have NB239_238 := n6_; clear n0_ n1_ n2_ n3_ n4_ n5_ n6_; clear hb hbox hg; have hnb8 := NB238_239.out; have hnc8 := NB239_238.out; have hcz9_0 : w7.cell? ⟨gb238, 0, none⟩ = some (.string a0_0) := (ze BK238.out 0).trans rfl; have hcz9_1 : w7.cell? ⟨gb238, 1, none⟩ = some (.string a0_1) := (ze BK238.out 1).trans rfl; have hcz9_2 : w7.cell? ⟨gb238, 2, none⟩ = some (.string a0_2) := (ze BK238.out 2).trans rfl; have hcz9_3 : w7.cell? ⟨gb238, 3, none⟩ = some (.string a0_3) := (ze BK238.out 3).trans rfl; have hcz9_4 : w7.cell? ⟨gb238, 4, none⟩ = some (.slice A0_4 l0_4.length c0_4) := (ze BK238.out 4).trans rfl; have hcz9_5 : w7.cell? ⟨gb238, 5, none⟩ = some (.string a0_5) := (ze BK238.out 5).trans rfl; have hfz9_0 := za BK238.out 0; have hfz9_1 := za BK238.out 1; have hfz9_2 := za BK238.out 2; have hfz9_3 := za BK238.out 3; have hfz9_4 := za BK238.out 4; have hfz9_5 := za BK238.out 5) | ((with_reducible refine gate_callee (f := 25) rfl ?_); refine goesL_ (some 14) rfl rfl Tryd.func25 (by kernel_rfl) rfl #[.agg #[.string a0_0, .string a0_1, .string a0_2, .string a0_3, .slice A0_4 l0_4.length c0_4, .string a0_5]] rfl (by (try simp only [zP, zQ, zR]); first | done | rfl | (simp only [zS, zT]; rfl)) ?_; (with_reducible refine (r2_Check.calls k a0_0 a0_1 a0_2 a0_3 _ _ l0_4 a0_5 t240 _ ?side1 ?side2 A4.out).mono ?_); (case side1 => repeat (first | exact (Kd.C_below HR0_4.out HB.out) | (with_reducible refine zF ?_ _) | (with_reducible refine zE ?_ _) | (with_reducible refine zG ?_))); (case side2 => exact HC0_4.out); rintro e w10 ⟨rfl, hb⟩; refine ⟨_, rfl, ?_⟩; have n0_ := Aq.mk (zw (g := gb238) (o := .cells #[.string a0_0, .string a0_1, .string a0_2, .string a0_3, .slice A0_4 l0_4.length c0_4, .string a0_5] 24 (0, 0)) (by (with_reducible repeat (first | refine zg ?_ _ | refine zi ?_ | refine zh ?_ _)); exact BK238.out) hb); have n1_ := Aq.mk (zw (g := gb239) (o := .cells #[.string (⟨#[]⟩ : ByteArray), .string (⟨#[]⟩ : ByteArray), .string (⟨#[]⟩ : ByteArray), .string (⟨#[]⟩ : ByteArray), .slice none 0 0, .string (⟨#[]⟩ : ByteArray)] 24 (0, 0)) (by (with_reducible repeat (first | refine zg ?_ _ | refine zi ?_ | refine zh ?_ _)); exact BK239.out) hb); have n2_ := Aq.mk (zv (by repeat (with_reducible first | exact HB.out | apply zd | apply zb | apply zc | refine zf ?_ GE238.out | refine zf ?_ GE239.out)) hb); clear BK238; clear BK239; clear HB; have BK238 := n0_; have BK239 := n1_; have HB := n2_; clear n0_ n1_ n2_; (try clear hb); (try clear hb2); (try clear hk); (try clear hi); have hcz11_0 : w10.cell? ⟨gb238, 0, none⟩ = some (.string a0_0) := (ze BK238.out 0).trans rfl; have hcz11_1 : w10.cell? ⟨gb238, 1, none⟩ = some (.string a0_1) := (ze BK238.out 1).trans rfl; have hcz11_2 : w10.cell? ⟨gb238, 2, none⟩ = some (.string a0_2) := (ze BK238.out 2).trans rfl; have hcz11_3 : w10.cell? ⟨gb238, 3, none⟩ = some (.string a0_3) := (ze BK238.out 3).trans rfl; have hcz11_4 : w10.cell? ⟨gb238, 4, none⟩ = some (.slice A0_4 l0_4.length c0_4) := (ze BK238.out 4).trans rfl; have hcz11_5 : w10.cell? ⟨gb238, 5, none⟩ = some (.string a0_5) := (ze BK238.out 5).trans rfl; have hfz11_0 := za BK238.out 0; have hfz11_1 := za BK238.out 1; have hfz11_2 := za BK238.out 2; have hfz11_3 := za BK238.out 3; have hfz11_4 := za BK238.out 4; have hfz11_5 := za BK238.out 5) | ((with_reducible refine gate_dst (N := 9) rfl ?_); refine box_event ?hg (N := 9) ?hd (cs := #[.string (⟨#[]⟩ : ByteArray), .string (⟨#[]⟩ : ByteArray), .string (⟨#[]⟩ : ByteArray), .string (⟨#[]⟩ : ByteArray), .slice none 0 0, .string (⟨#[]⟩ : ByteArray)]) (t := 24) ?hr ?_; (case hd => rfl); (case hg => rfl); (case hr => first | (go_simp; done) | (go_simp; rfl)); intro gb241 hg w12 hbox hb; have n0_ := Aq.mk (zw (g := gb238) (o := .cells #[.string a0_0, .string a0_1, .string a0_2, .string a0_3, .slice A0_4 l0_4.length c0_4, .string a0_5] 24 (0, 0)) (by (with_reducible repeat (first | refine zg ?_ _ | refine zi ?_ | refine zh ?_ _)); exact BK238.out) hb); have n1_ := Aq.mk (zw (g := gb239) (o := .cells #[.string (⟨#[]⟩ : ByteArray), .string (⟨#[]⟩ : ByteArray), .string (⟨#[]⟩ : ByteArray), .string (⟨#[]⟩ : ByteArray), .slice none 0 0, .string (⟨#[]⟩ : ByteArray)] 24 (0, 0)) (by (with_reducible repeat (first | refine zg ?_ _ | refine zi ?_ | refine zh ?_ _)); exact BK239.out) hb); have n2_ := Aq.mk (zv (by repeat (with_reducible first | exact HB.out | apply zd | apply zb | apply zc | refine zf ?_ GE238.out | refine zf ?_ GE239.out)) hb); have n3_ := Aq.mk (hbox); have n4_ := Aq.mk ((by rw [hg]; exact (zz (by repeat (with_reducible first | exact HB.out | apply zd | apply zb | apply zc | refine zf ?_ GE238.out | refine zf ?_ GE239.out))) : w.heap.size ≤ gb241)); have n5_ := Aq.mk ((by rw [hg]; exact (zz (by repeat (with_reducible first | exact HB.out | apply zd | apply zb | apply zc | refine zf ?_ GE238.out | refine zf ?_ GE239.out))) : w.heap.size ≤ gb241)); have n6_ := Aq.mk ((by rw [hg]; exact Nat.ne_of_lt (zA (g := gb238) (o := .cells #[.string a0_0, .string a0_1, .string a0_2, .string a0_3, .slice A0_4 l0_4.length c0_4, .string a0_5] 24 (0, 0)) (by (with_reducible repeat (first | refine zg ?_ _ | refine zi ?_ | refine zh ?_ _)); exact BK238.out)) : gb238 ≠ gb241)); have n7_ := Aq.mk ((by rw [hg]; exact Nat.ne_of_gt (zA (g := gb238) (o := .cells #[.string a0_0, .string a0_1, .string a0_2, .string a0_3, .slice A0_4 l0_4.length c0_4, .string a0_5] 24 (0, 0)) (by (with_reducible repeat (first | refine zg ?_ _ | refine zi ?_ | refine zh ?_ _)); exact BK238.out)) : gb241 ≠ gb238)); have n8_ := Aq.mk ((by rw [hg]; exact Nat.ne_of_lt (zA (g := gb239) (o := .cells #[.string (⟨#[]⟩ : ByteArray), .string (⟨#[]⟩ : ByteArray), .string (⟨#[]⟩ : ByteArray), .string (⟨#[]⟩ : ByteArray), .slice none 0 0, .string (⟨#[]⟩ : ByteArray)] 24 (0, 0)) (by (with_reducible repeat (first | refine zg ?_ _ | refine zi ?_ | refine zh ?_ _)); exact BK239.out)) : gb239 ≠ gb241)); have n9_ := Aq.mk ((by rw [hg]; exact Nat.ne_of_gt (zA (g := gb239) (o := .cells #[.string (⟨#[]⟩ : ByteArray), .string (⟨#[]⟩ : ByteArray), .string (⟨#[]⟩ : ByteArray), .string (⟨#[]⟩ : ByteArray), .slice none 0 0, .string (⟨#[]⟩ : ByteArray)] 24 (0, 0)) (by (with_reducible repeat (first | refine zg ?_ _ | refine zi ?_ | refine zh ?_ _)); exact BK239.out)) : gb241 ≠ gb239)); clear BK238; clear BK239; clear HB; have BK238 := n0_; have BK239 := n1_; have HB := n2_; have BK241 := n3_; have GW241 := n4_; have GE241 := n5_; have NB238_241 := n6_; have NB241_238 := n7_; have NB239_241 := n8_; have NB241_239 := n9_; clear n0_ n1_ n2_ n3_ n4_ n5_ n6_ n7_ n8_ n9_; clear hb hbox hg; have hnb13 := NB241_238.out; have hnc13 := NB238_241.out; have hnb14 := NB241_239.out; have hnc14 := NB239_241.out; have hcz15_0 : w12.cell? ⟨gb241, 0, none⟩ = some (.string (⟨#[]⟩ : ByteArray)) := (ze BK241.out 0).trans rfl; have hcz15_1 : w12.cell? ⟨gb241, 1, none⟩ = some (.string (⟨#[]⟩ : ByteArray)) := (ze BK241.out 1).trans rfl; have hcz15_2 : w12.cell? ⟨gb241, 2, none⟩ = some (.string (⟨#[]⟩ : ByteArray)) := (ze BK241.out 2).trans rfl; have hcz15_3 : w12.cell? ⟨gb241, 3, none⟩ = some (.string (⟨#[]⟩ : ByteArray)) := (ze BK241.out 3).trans rfl; have hcz15_4 : w12.cell? ⟨gb241, 4, none⟩ = some (.slice none 0 0) := (ze BK241.out 4).trans rfl; have hcz15_5 : w12.cell? ⟨gb241, 5, none⟩ = some (.string (⟨#[]⟩ : ByteArray)) := (ze BK241.out 5).trans rfl; have hfz15_0 := za BK241.out 0; have hfz15_1 := za BK241.out 1; have hfz15_2 := za BK241.out 2; have hfz15_3 := za BK241.out 3; have hfz15_4 := za BK241.out 4; have hfz15_5 := za BK241.out 5; have hcz16_0 : w12.cell? ⟨gb238, 0, none⟩ = some (.string a0_0) := (ze BK238.out 0).trans rfl; have hcz16_1 : w12.cell? ⟨gb238, 1, none⟩ = some (.string a0_1) := (ze BK238.out 1).trans rfl; have hcz16_2 : w12.cell? ⟨gb238, 2, none⟩ = some (.string a0_2) := (ze BK238.out 2).trans rfl; have hcz16_3 : w12.cell? ⟨gb238, 3, none⟩ = some (.string a0_3) := (ze BK238.out 3).trans rfl; have hcz16_4 : w12.cell? ⟨gb238, 4, none⟩ = some (.slice A0_4 l0_4.length c0_4) := (ze BK238.out 4).trans rfl; have hcz16_5 : w12.cell? ⟨gb238, 5, none⟩ = some (.string a0_5) := (ze BK238.out 5).trans rfl; have hfz16_0 := za BK238.out 0; have hfz16_1 := za BK238.out 1; have hfz16_2 := za BK238.out 2; have hfz16_3 := za BK238.out 3; have hfz16_4 := za BK238.out 4; have hfz16_5 := za BK238.out 5))
  go_loopg [10, 26] k (fun kq v10 v26 w' => ∃ (x10_1 : Bool) (x26_1 : Int) (x242004_1 : List (S64)) (u242004 : Value), v10 = .bool x10_1 ∧ v26 = .int .i64 x26_1 ∧ Aq (r2_Qualified.l0 kq a1 a2 x10_1 l0_4 (l0_4.length : Int) x26_1 a0_0 a0_1 a0_2 a0_3 x242004_1 a0_5 = some (r1, r2, r3, r4, r5, r6, r7)) ∧ Aq (kq ≤ k) ∧ Aq (Kd.R k64 64 w' w.heap.size (fun _ => True) u242004 x242004_1) ∧ Aq (w'.heap[gb238]? = some (.cells #[.string a0_0, .string a0_1, .string a0_2, .string a0_3, (.slice A0_4 l0_4.length c0_4), .string a0_5] 24 (0, 0))) ∧ Aq (w'.heap[gb239]? = some (.cells #[.string (⟨#[]⟩ : ByteArray), .string (⟨#[]⟩ : ByteArray), .string (⟨#[]⟩ : ByteArray), .string (⟨#[]⟩ : ByteArray), (.slice none 0 0), .string (⟨#[]⟩ : ByteArray)] 24 (0, 0))) ∧ Aq (w'.heap[gb241]? = some (.cells #[.string a0_0, .string a0_1, .string a0_2, .string a0_3, u242004, .string a0_5] 24 (0, 0))) ∧ Aq (Below w.heap.size w w'))
  case atStart => exact ⟨((a2.toList == ([] : List UInt8))), (0), (([] : List (S64))), (.slice none 0 0), (by first | rfl | (simp; done) | (simp [*]; done)), (by first | rfl | (simp; done) | (simp [*]; done)), H', ⟨Nat.le_refl _⟩, ⟨by first | exact Kd.R_nil _ _ _ _ _ | exact Kd.N_nil _ _ _ _ _ | exact Kd.V_nil _ _ _ _ _ | exact Kd.Q_nil _ _ _ _ _ | exact Kd.S_nil _ _ _ _ _⟩, ⟨by (with_reducible repeat (first | refine zg ?_ _ | refine zi ?_ | refine zh ?_ _)); refine zx ?_ NB238_241.out _; (with_reducible repeat (first | refine zg ?_ _ | refine zi ?_ | refine zh ?_ _)); refine zx ?_ NB238_241.out _; (with_reducible repeat (first | refine zg ?_ _ | refine zi ?_ | refine zh ?_ _)); refine zx ?_ NB238_241.out _; (with_reducible repeat (first | refine zg ?_ _ | refine zi ?_ | refine zh ?_ _)); refine zx ?_ NB238_241.out _; (with_reducible repeat (first | refine zg ?_ _ | refine zi ?_ | refine zh ?_ _)); refine zx ?_ NB238_241.out _; (with_reducible repeat (first | refine zg ?_ _ | refine zi ?_ | refine zh ?_ _)); refine zx ?_ NB238_241.out _; (with_reducible repeat (first | refine zg ?_ _ | refine zi ?_ | refine zh ?_ _)); refine zx ?_ NB238_241.out _; (with_reducible repeat (first | refine zg ?_ _ | refine zi ?_ | refine zh ?_ _)); exact BK238.out⟩, ⟨by (with_reducible repeat (first | refine zg ?_ _ | refine zi ?_ | refine zh ?_ _)); refine zx ?_ NB239_241.out _; (with_reducible repeat (first | refine zg ?_ _ | refine zi ?_ | refine zh ?_ _)); refine zx ?_ NB239_241.out _; (with_reducible repeat (first | refine zg ?_ _ | refine zi ?_ | refine zh ?_ _)); refine zx ?_ NB239_241.out _; (with_reducible repeat (first | refine zg ?_ _ | refine zi ?_ | refine zh ?_ _)); refine zx ?_ NB239_241.out _; (with_reducible repeat (first | refine zg ?_ _ | refine zi ?_ | refine zh ?_ _)); refine zx ?_ NB239_241.out _; (with_reducible repeat (first | refine zg ?_ _ | refine zi ?_ | refine zh ?_ _)); refine zx ?_ NB239_241.out _; (with_reducible repeat (first | refine zg ?_ _ | refine zi ?_ | refine zh ?_ _)); refine zx ?_ NB239_241.out _; (with_reducible repeat (first | refine zg ?_ _ | refine zi ?_ | refine zh ?_ _)); exact BK239.out⟩, ⟨by (with_reducible repeat (first | refine zg ?_ _ | refine zi ?_ | refine zh ?_ _)); refine zy (cs := #[.string a0_0, .string a0_1, .string a0_2, .string a0_3, .slice A0_4 l0_4.length c0_4, .string a0_5]) ?_ 4 _ rfl; (with_reducible repeat (first | refine zg ?_ _ | refine zi ?_ | refine zh ?_ _)); refine zy (cs := #[.string a0_0, .string a0_1, .string a0_2, .string a0_3, .slice A0_4 l0_4.length c0_4, .string (⟨#[]⟩ : ByteArray)]) ?_ 5 _ rfl; (with_reducible repeat (first | refine zg ?_ _ | refine zi ?_ | refine zh ?_ _)); refine zy (cs := #[.string a0_0, .string a0_1, .string a0_2, .string a0_3, .slice none 0 0, .string (⟨#[]⟩ : ByteArray)]) ?_ 4 _ rfl; (with_reducible repeat (first | refine zg ?_ _ | refine zi ?_ | refine zh ?_ _)); refine zy (cs := #[.string a0_0, .string a0_1, .string a0_2, .string (⟨#[]⟩ : ByteArray), .slice none 0 0, .string (⟨#[]⟩ : ByteArray)]) ?_ 3 _ rfl; (with_reducible repeat (first | refine zg ?_ _ | refine zi ?_ | refine zh ?_ _)); refine zy (cs := #[.string a0_0, .string a0_1, .string (⟨#[]⟩ : ByteArray), .string (⟨#[]⟩ : ByteArray), .slice none 0 0, .string (⟨#[]⟩ : ByteArray)]) ?_ 2 _ rfl; (with_reducible repeat (first | refine zg ?_ _ | refine zi ?_ | refine zh ?_ _)); refine zy (cs := #[.string a0_0, .string (⟨#[]⟩ : ByteArray), .string (⟨#[]⟩ : ByteArray), .string (⟨#[]⟩ : ByteArray), .slice none 0 0, .string (⟨#[]⟩ : ByteArray)]) ?_ 1 _ rfl; (with_reducible repeat (first | refine zg ?_ _ | refine zi ?_ | refine zh ?_ _)); refine zy (cs := #[.string (⟨#[]⟩ : ByteArray), .string (⟨#[]⟩ : ByteArray), .string (⟨#[]⟩ : ByteArray), .string (⟨#[]⟩ : ByteArray), .slice none 0 0, .string (⟨#[]⟩ : ByteArray)]) ?_ 0 _ rfl; (with_reducible repeat (first | refine zg ?_ _ | refine zi ?_ | refine zh ?_ _)); exact BK241.out⟩, ⟨by repeat (with_reducible first | exact HB.out | apply zd | apply zb | apply zc | refine zf ?_ GE238.out | refine zf ?_ GE239.out | refine zf ?_ GE241.out)⟩⟩
  case round =>
   clear H'
   try clear c1
   try clear c2
   try clear p2
   try clear c5
   try clear c5b0
   try clear c5b1
   try clear c8
   try clear c13
   try clear c14
   try clear hcz11_0
   try clear hcz11_1
   try clear hcz11_2
   try clear hcz11_3
   try clear hcz11_4
   try clear hcz11_5
   try clear hcz15_0
   try clear hcz15_1
   try clear hcz15_2
   try clear hcz15_3
   try clear hcz15_4
   try clear hcz15_5
   try clear hcz16_0
   try clear hcz16_1
   try clear hcz16_2
   try clear hcz16_3
   try clear hcz16_4
   try clear hcz16_5
   try clear hcz9_0
   try clear hcz9_1
   try clear hcz9_2
   try clear hcz9_3
   try clear hcz9_4
   try clear hcz9_5
   try clear hfz11_0
   try clear hfz11_1
   try clear hfz11_2
   try clear hfz11_3
   try clear hfz11_4
   try clear hfz11_5
   try clear hfz15_0
   try clear hfz15_1
   try clear hfz15_2
   try clear hfz15_3
   try clear hfz15_4
   try clear hfz15_5
   try clear hfz16_0
   try clear hfz16_1
   try clear hfz16_2
   try clear hfz16_3
   try clear hfz16_4
   try clear hfz16_5
   try clear hfz9_0
   try clear hfz9_1
   try clear hfz9_2
   try clear hfz9_3
   try clear hfz9_4
   try clear hfz9_5
   obtain ⟨x10_1, x26_1, x242004_1, u242004, rfl, rfl, HA, HK1, HO_242004, BK238, BK239, BK241, HB⟩ := hrel
   cases gk with
   | zero => exact absurd HA.out (by simp [r2_Qualified.l0])
   | succ k1 =>
    have H := HA.out
    clear HA
    simp only [r2_Qualified.l0] at H
    by_cases c17 : x26_1 < (l0_4.length : Int)
    ·rw [if_pos c17] at H
     have c17b0 : decide (x26_1 < (l0_4.length : Int)) = true := zk c17
     clear c17
     by_cases c18 : 0 ≤ x26_1
     ·rw [if_pos c18] at H
      have c18b0 : decide (0 ≤ x26_1) = true := zk c18
      clear c18
      by_cases c19 : x26_1 < (l0_4.length : Int)
      ·rw [if_pos c19] at H
       have c19b0 : decide (x26_1 < (l0_4.length : Int)) = true := zk c19
       clear c19
       have HC20 := Aq.mk H
       clear H
       have p263 : 0 ≤ (x26_1 : Int) := zj (by assumption)
       have q263 : x26_1 < (l0_4.length : Int) := zj (by assumption)
       obtain ⟨ad263, e263, hx263_0, hx263_1⟩ := at_T64 HR0_4.out x26_1 p263 q263
       cases e263
       replace hx263_0 := (HB.out.cell (World.block_lt_of_cell? w _ hx263_0)).trans hx263_0
       replace hx263_1 := (HB.out.cell (World.block_lt_of_cell? w _ hx263_1)).trans hx263_1
       replace p263 := eq_true p263
       replace q263 := eq_true q263
       go_upto_region 10 with (first | ((with_reducible refine gate_dst (N := 12) rfl ?_); refine box_event ?hg (N := 12) ?hd (cs := #[.string (⟨#[]⟩ : ByteArray), .string (⟨#[]⟩ : ByteArray)]) (t := 64) ?hr ?_; (case hd => rfl); (case hg => rfl); (case hr => first | (go_simp; done) | (go_simp; rfl)); intro gb264 hg w21 hbox hb; have n0_ := Aq.mk (yj (Kd.R_elderB (by (with_reducible repeat (first | apply zC | apply zB | apply zD)); exact HO_242004.out) gb264 (Nat.le_of_eq hg.symm)) hb); have n1_ := Aq.mk (zw (g := gb238) (o := .cells #[.string a0_0, .string a0_1, .string a0_2, .string a0_3, .slice (some ad263) l0_4.length c0_4, .string a0_5] 24 (0, 0)) (by (with_reducible repeat (first | refine zg ?_ _ | refine zi ?_ | refine zh ?_ _)); exact BK238.out) hb); have n2_ := Aq.mk (zw (g := gb239) (o := .cells #[.string (⟨#[]⟩ : ByteArray), .string (⟨#[]⟩ : ByteArray), .string (⟨#[]⟩ : ByteArray), .string (⟨#[]⟩ : ByteArray), .slice none 0 0, .string (⟨#[]⟩ : ByteArray)] 24 (0, 0)) (by (with_reducible repeat (first | refine zg ?_ _ | refine zi ?_ | refine zh ?_ _)); exact BK239.out) hb); have n3_ := Aq.mk (zw (g := gb241) (o := .cells #[.string a0_0, .string a0_1, .string a0_2, .string a0_3, u242004, .string a0_5] 24 (0, 0)) (by (with_reducible repeat (first | refine zg ?_ _ | refine zi ?_ | refine zh ?_ _)); exact BK241.out) hb); have n4_ := Aq.mk (zv (by repeat (with_reducible first | exact HB.out | apply zd | apply zb | apply zc | refine zf ?_ GE238.out | refine zf ?_ GE239.out | refine zf ?_ GE241.out)) hb); have n5_ := Aq.mk (hbox); have n6_ := Aq.mk ((by rw [hg]; exact (zz (by repeat (with_reducible first | exact HB.out | apply zd | apply zb | apply zc | refine zf ?_ GE238.out | refine zf ?_ GE239.out | refine zf ?_ GE241.out))) : w.heap.size ≤ gb264)); have n7_ := Aq.mk ((by rw [hg]; exact (zz (by repeat (with_reducible first | exact HB.out | apply zd | apply zb | apply zc | refine zf ?_ GE238.out | refine zf ?_ GE239.out | refine zf ?_ GE241.out))) : w.heap.size ≤ gb264)); have n8_ := Aq.mk ((by rw [hg]; exact Nat.ne_of_lt (zA (g := gb238) (o := .cells #[.string a0_0, .string a0_1, .string a0_2, .string a0_3, .slice (some ad263) l0_4.length c0_4, .string a0_5] 24 (0, 0)) (by (with_reducible repeat (first | refine zg ?_ _ | refine zi ?_ | refine zh ?_ _)); exact BK238.out)) : gb238 ≠ gb264)); have n9_ := Aq.mk ((by rw [hg]; exact Nat.ne_of_gt (zA (g := gb238) (o := .cells #[.string a0_0, .string a0_1, .string a0_2, .string a0_3, .slice (some ad263) l0_4.length c0_4, .string a0_5] 24 (0, 0)) (by (with_reducible repeat (first | refine zg ?_ _ | refine zi ?_ | refine zh ?_ _)); exact BK238.out)) : gb264 ≠ gb238)); have n10_ := Aq.mk ((by rw [hg]; exact Nat.ne_of_lt (zA (g := gb239) (o := .cells #[.string (⟨#[]⟩ : ByteArray), .string (⟨#[]⟩ : ByteArray), .string (⟨#[]⟩ : ByteArray), .string (⟨#[]⟩ : ByteArray), .slice none 0 0, .string (⟨#[]⟩ : ByteArray)] 24 (0, 0)) (by (with_reducible repeat (first | refine zg ?_ _ | refine zi ?_ | refine zh ?_ _)); exact BK239.out)) : gb239 ≠ gb264)); have n11_ := Aq.mk ((by rw [hg]; exact Nat.ne_of_gt (zA (g := gb239) (o := .cells #[.string (⟨#[]⟩ : ByteArray), .string (⟨#[]⟩ : ByteArray), .string (⟨#[]⟩ : ByteArray), .string (⟨#[]⟩ : ByteArray), .slice none 0 0, .string (⟨#[]⟩ : ByteArray)] 24 (0, 0)) (by (with_reducible repeat (first | refine zg ?_ _ | refine zi ?_ | refine zh ?_ _)); exact BK239.out)) : gb264 ≠ gb239)); have n12_ := Aq.mk ((by rw [hg]; exact Nat.ne_of_lt (zA (g := gb241) (o := .cells #[.string a0_0, .string a0_1, .string a0_2, .string a0_3, u242004, .string a0_5] 24 (0, 0)) (by (with_reducible repeat (first | refine zg ?_ _ | refine zi ?_ | refine zh ?_ _)); exact BK241.out)) : gb241 ≠ gb264)); have n13_ := Aq.mk ((by rw [hg]; exact Nat.ne_of_gt (zA (g := gb241) (o := .cells #[.string a0_0, .string a0_1, .string a0_2, .string a0_3, u242004, .string a0_5] 24 (0, 0)) (by (with_reducible repeat (first | refine zg ?_ _ | refine zi ?_ | refine zh ?_ _)); exact BK241.out)) : gb264 ≠ gb241)); clear HO_242004; clear BK238; clear BK239; clear BK241; clear HB; have HO_242004 := n0_; have BK238 := n1_; have BK239 := n2_; have BK241 := n3_; have HB := n4_; have BK264 := n5_; have GW264 := n6_; have GE264 := n7_; have NB238_264 := n8_; have NB264_238 := n9_; have NB239_264 := n10_; have NB264_239 := n11_; have NB241_264 := n12_; have NB264_241 := n13_; clear n0_ n1_ n2_ n3_ n4_ n5_ n6_ n7_ n8_ n9_ n10_ n11_ n12_ n13_; clear hb hbox hg; have hnb22 := NB264_238.out; have hnc22 := NB238_264.out; have hnb23 := NB264_239.out; have hnc23 := NB239_264.out; have hnb24 := NB264_241.out; have hnc24 := NB241_264.out; have hcz25_0 : w21.cell? ⟨gb264, 0, none⟩ = some (.string (⟨#[]⟩ : ByteArray)) := (ze BK264.out 0).trans rfl; have hcz25_1 : w21.cell? ⟨gb264, 1, none⟩ = some (.string (⟨#[]⟩ : ByteArray)) := (ze BK264.out 1).trans rfl; have hfz25_0 := za BK264.out 0; have hfz25_1 := za BK264.out 1))
       (try simp only [Act.put, zJ, zK, zL])
       go_cut [37] (fun v37 wc => ∃ (kq : Nat) (x37_19 : Bool), v37 = .bool x37_19 ∧ Aq (r2_Qualified.j1 kq a1 a2 x10_1 l0_4 (l0_4.length : Int) x26_1 x37_19 a0_0 a0_1 a0_2 a0_3 x242004_1 a0_5 ((rd_T64 l0_4 x26_1).f0) ((rd_T64 l0_4 x26_1).f1) = some (r1, r2, r3, r4, r5, r6, r7)) ∧ Aq (kq ≤ k1) ∧ Aq (Kd.R k64 64 wc w.heap.size (fun k_ => k_ ≠ gb264) u242004 x242004_1) ∧ Aq (wc.heap[gb238]? = some (.cells #[.string a0_0, .string a0_1, .string a0_2, .string a0_3, (.slice (some ad263) l0_4.length c0_4), .string a0_5] 24 (0, 0))) ∧ Aq (wc.heap[gb239]? = some (.cells #[.string (⟨#[]⟩ : ByteArray), .string (⟨#[]⟩ : ByteArray), .string (⟨#[]⟩ : ByteArray), .string (⟨#[]⟩ : ByteArray), (.slice none 0 0), .string (⟨#[]⟩ : ByteArray)] 24 (0, 0))) ∧ Aq (wc.heap[gb241]? = some (.cells #[.string a0_0, .string a0_1, .string a0_2, .string a0_3, u242004, .string a0_5] 24 (0, 0))) ∧ Aq (wc.heap[gb264]? = some (.cells #[.string ((rd_T64 l0_4 x26_1).f0), .string ((rd_T64 l0_4 x26_1).f1)] 64 (0, 0))) ∧ Aq (Below w.heap.size w wc))
       case first =>
        have H := HC20.out
        clear HC20
        by_cases c26 : x10_1 = true
        ·subst c26
         have H1 : (r2_Qualified.j1 k1 a1 a2 true l0_4 (l0_4.length : Int) x26_1 false a0_0 a0_1 a0_2 a0_3 x242004_1 a0_5 ((rd_T64 l0_4 x26_1).f0) ((rd_T64 l0_4 x26_1).f1)) = some (r1, r2, r3, r4, r5, r6, r7) := by rw [if_pos rfl] at H; exact H
         clear H
         have H := H1
         clear H1
         have H' := Aq.mk H
         clear H
         go_wp2
         go_meet
         case rel => exact ⟨_, (false), (by first | rfl | (simp; done) | (simp [*]; done)), H', ⟨by have := HK1.out; first | omega | exact Nat.le_refl _⟩, ⟨by (with_reducible repeat (first | apply zC | apply zB | apply zD)); exact Kd.R_mono (Kd.R_far (p := ⟨gb264, 1, none⟩) (Kd.R_far (p := ⟨gb264, 0, none⟩) (Kd.R_mono HO_242004.out (fun k_ hk => (⟨hk, hk.2⟩ : _ ∧ k_ ≠ gb264))) (fun _ hk => hk.2) (.string ((rd_T64 l0_4 x26_1).f0))) (fun _ hk => hk.2) (.string ((rd_T64 l0_4 x26_1).f1))) (fun _ hk => hk.1.2)⟩, ⟨by (with_reducible repeat (first | refine zg ?_ _ | refine zi ?_ | refine zh ?_ _)); refine zx ?_ NB238_264.out _; (with_reducible repeat (first | refine zg ?_ _ | refine zi ?_ | refine zh ?_ _)); refine zx ?_ NB238_264.out _; (with_reducible repeat (first | refine zg ?_ _ | refine zi ?_ | refine zh ?_ _)); exact BK238.out⟩, ⟨by (with_reducible repeat (first | refine zg ?_ _ | refine zi ?_ | refine zh ?_ _)); refine zx ?_ NB239_264.out _; (with_reducible repeat (first | refine zg ?_ _ | refine zi ?_ | refine zh ?_ _)); refine zx ?_ NB239_264.out _; (with_reducible repeat (first | refine zg ?_ _ | refine zi ?_ | refine zh ?_ _)); exact BK239.out⟩, ⟨by (with_reducible repeat (first | refine zg ?_ _ | refine zi ?_ | refine zh ?_ _)); refine zx ?_ NB241_264.out _; (with_reducible repeat (first | refine zg ?_ _ | refine zi ?_ | refine zh ?_ _)); refine zx ?_ NB241_264.out _; (with_reducible repeat (first | refine zg ?_ _ | refine zi ?_ | refine zh ?_ _)); exact BK241.out⟩, ⟨by (with_reducible repeat (first | refine zg ?_ _ | refine zi ?_ | refine zh ?_ _)); refine zy (cs := #[.string ((rd_T64 l0_4 x26_1).f0), .string (⟨#[]⟩ : ByteArray)]) ?_ 1 _ rfl; (with_reducible repeat (first | refine zg ?_ _ | refine zi ?_ | refine zh ?_ _)); refine zy (cs := #[.string (⟨#[]⟩ : ByteArray), .string (⟨#[]⟩ : ByteArray)]) ?_ 0 _ rfl; (with_reducible repeat (first | refine zg ?_ _ | refine zi ?_ | refine zh ?_ _)); exact BK264.out⟩, ⟨by repeat (with_reducible first | exact HB.out | apply zd | apply zb | apply zc | refine zf ?_ GE238.out | refine zf ?_ GE239.out | refine zf ?_ GE241.out | refine zf ?_ GE264.out)⟩⟩
        ·replace c26 := Bool.eq_false_iff.mpr c26
         subst c26
         have H1 : (r2_Qualified.j1 k1 a1 a2 false l0_4 (l0_4.length : Int) x26_1 (!(Op.bytesLess (((rd_T64 l0_4 x26_1).f0).toList) a1.toList)) a0_0 a0_1 a0_2 a0_3 x242004_1 a0_5 ((rd_T64 l0_4 x26_1).f0) ((rd_T64 l0_4 x26_1).f1)) = some (r1, r2, r3, r4, r5, r6, r7) := by rw [if_neg (show ¬ (false = true) by decide)] at H; exact H
         clear H
         have H := H1
         clear H1
         have H' := Aq.mk H
         clear H
         have hnb27 := NB264_238.out
         have hnc27 := NB238_264.out
         have hnb28 := NB264_239.out
         have hnc28 := NB239_264.out
         have hnb29 := NB264_241.out
         have hnc29 := NB241_264.out
         have hcz30_0 : w21.cell? ⟨gb264, 0, none⟩ = some (.string (⟨#[]⟩ : ByteArray)) := (ze BK264.out 0).trans rfl
         have hcz30_1 : w21.cell? ⟨gb264, 1, none⟩ = some (.string (⟨#[]⟩ : ByteArray)) := (ze BK264.out 1).trans rfl
         have hfz30_0 := za BK264.out 0
         have hfz30_1 := za BK264.out 1
         go_wp2
         go_meet
         case rel => exact ⟨_, (!(Op.bytesLess (((rd_T64 l0_4 x26_1).f0).toList) a1.toList)), (by first | rfl | (simp; done) | (simp [*]; done)), H', ⟨by have := HK1.out; first | omega | exact Nat.le_refl _⟩, ⟨by (with_reducible repeat (first | apply zC | apply zB | apply zD)); exact Kd.R_mono (Kd.R_far (p := ⟨gb264, 1, none⟩) (Kd.R_far (p := ⟨gb264, 0, none⟩) (Kd.R_mono HO_242004.out (fun k_ hk => (⟨hk, hk.2⟩ : _ ∧ k_ ≠ gb264))) (fun _ hk => hk.2) (.string ((rd_T64 l0_4 x26_1).f0))) (fun _ hk => hk.2) (.string ((rd_T64 l0_4 x26_1).f1))) (fun _ hk => hk.1.2)⟩, ⟨by (with_reducible repeat (first | refine zg ?_ _ | refine zi ?_ | refine zh ?_ _)); refine zx ?_ NB238_264.out _; (with_reducible repeat (first | refine zg ?_ _ | refine zi ?_ | refine zh ?_ _)); refine zx ?_ NB238_264.out _; (with_reducible repeat (first | refine zg ?_ _ | refine zi ?_ | refine zh ?_ _)); exact BK238.out⟩, ⟨by (with_reducible repeat (first | refine zg ?_ _ | refine zi ?_ | refine zh ?_ _)); refine zx ?_ NB239_264.out _; (with_reducible repeat (first | refine zg ?_ _ | refine zi ?_ | refine zh ?_ _)); refine zx ?_ NB239_264.out _; (with_reducible repeat (first | refine zg ?_ _ | refine zi ?_ | refine zh ?_ _)); exact BK239.out⟩, ⟨by (with_reducible repeat (first | refine zg ?_ _ | refine zi ?_ | refine zh ?_ _)); refine zx ?_ NB241_264.out _; (with_reducible repeat (first | refine zg ?_ _ | refine zi ?_ | refine zh ?_ _)); refine zx ?_ NB241_264.out _; (with_reducible repeat (first | refine zg ?_ _ | refine zi ?_ | refine zh ?_ _)); exact BK241.out⟩, ⟨by (with_reducible repeat (first | refine zg ?_ _ | refine zi ?_ | refine zh ?_ _)); refine zy (cs := #[.string ((rd_T64 l0_4 x26_1).f0), .string (⟨#[]⟩ : ByteArray)]) ?_ 1 _ rfl; (with_reducible repeat (first | refine zg ?_ _ | refine zi ?_ | refine zh ?_ _)); refine zy (cs := #[.string (⟨#[]⟩ : ByteArray), .string (⟨#[]⟩ : ByteArray)]) ?_ 0 _ rfl; (with_reducible repeat (first | refine zg ?_ _ | refine zi ?_ | refine zh ?_ _)); exact BK264.out⟩, ⟨by repeat (with_reducible first | exact HB.out | apply zd | apply zb | apply zc | refine zf ?_ GE238.out | refine zf ?_ GE239.out | refine zf ?_ GE241.out | refine zf ?_ GE264.out)⟩⟩
       case rest =>
        clear HC20
        try clear c1
        try clear c2
        try clear p2
        try clear q2
        try clear hx2
        try clear c5
        try clear c5b0
        try clear c5b1
        try clear c8
        try clear c13
        try clear c14
        try clear c17
        try clear c17b0
        try clear c18
        try clear c18b0
        try clear c19
        try clear c19b0
        try clear c22
        try clear c23
        try clear c24
        try clear c25
        try clear c26
        try clear p26
        try clear q26
        try clear hx26
        try clear c27
        try clear c28
        try clear c29
        try clear hcz11_0
        try clear hcz11_1
        try clear hcz11_2
        try clear hcz11_3
        try clear hcz11_4
        try clear hcz11_5
        try clear hcz15_0
        try clear hcz15_1
        try clear hcz15_2
        try clear hcz15_3
        try clear hcz15_4
        try clear hcz15_5
        try clear hcz16_0
        try clear hcz16_1
        try clear hcz16_2
        try clear hcz16_3
        try clear hcz16_4
        try clear hcz16_5
        try clear hcz25_0
        try clear hcz25_1
        try clear hcz30_0
        try clear hcz30_1
        try clear hcz9_0
        try clear hcz9_1
        try clear hcz9_2
        try clear hcz9_3
        try clear hcz9_4
        try clear hcz9_5
        try clear hfz11_0
        try clear hfz11_1
        try clear hfz11_2
        try clear hfz11_3
        try clear hfz11_4
        try clear hfz11_5
        try clear hfz15_0
        try clear hfz15_1
        try clear hfz15_2
        try clear hfz15_3
        try clear hfz15_4
        try clear hfz15_5
        try clear hfz16_0
        try clear hfz16_1
        try clear hfz16_2
        try clear hfz16_3
        try clear hfz16_4
        try clear hfz16_5
        try clear hfz25_0
        try clear hfz25_1
        try clear hfz30_0
        try clear hfz30_1
        try clear hfz9_0
        try clear hfz9_1
        try clear hfz9_2
        try clear hfz9_3
        try clear hfz9_4
        try clear hfz9_5
        try clear hx263_0
        try clear hx263_1
        try clear p2
        try clear p263
        try clear q263
        obtain ⟨kq, x37_19, rfl, HA, HJ19, HO_242004, BK238, BK239, BK241, BK264, HB⟩ := hcut
        cases kq with
        | zero => exact absurd HA.out (by simp [r2_Qualified.j1])
        | succ kj19 =>
         have H := HA.out
         clear HA
         simp only [r2_Qualified.j1] at H
         by_cases c31 : x37_19 = true
         ·subst c31
          have H1 : (if x242004_1.length < 4398046511104 then ((some (x242004_1 ++ [(⟨a1, a2⟩ : S64)] : List (S64))).bind fun y265 => (if ((rd_T64 l0_4 x26_1).f0).toList = a1.toList then (r2_Qualified.l0 kj19 a1 a2 true l0_4 (l0_4.length : Int) (wrap64 (x26_1 + 1)) a0_0 a0_1 a0_2 a0_3 y265 a0_5) else (if y265.length < 4398046511104 then (r2_Qualified.l0 kj19 a1 a2 true l0_4 (l0_4.length : Int) (wrap64 (x26_1 + 1)) a0_0 a0_1 a0_2 a0_3 (y265 ++ [(⟨((rd_T64 l0_4 x26_1).f0), ((rd_T64 l0_4 x26_1).f1)⟩ : S64)]) a0_5) else (none)))) else (none)) = some (r1, r2, r3, r4, r5, r6, r7) := by rw [if_pos rfl] at H; exact H
          clear H
          have H := H1
          clear H1
          by_cases c32 : x242004_1.length < 4398046511104
          ·rw [if_pos c32] at H
           have LMc32 := Aq.mk c32
           clear c32
           obtain ⟨y265, hy265⟩ : ∃ y_ : List (S64), y_ = (x242004_1 ++ [(⟨a1, a2⟩ : S64)]) := ⟨_, rfl⟩
           replace H : (if ((rd_T64 l0_4 x26_1).f0).toList = a1.toList then (r2_Qualified.l0 kj19 a1 a2 true l0_4 (l0_4.length : Int) (wrap64 (x26_1 + 1)) a0_0 a0_1 a0_2 a0_3 y265 a0_5) else (if y265.length < 4398046511104 then (r2_Qualified.l0 kj19 a1 a2 true l0_4 (l0_4.length : Int) (wrap64 (x26_1 + 1)) a0_0 a0_1 a0_2 a0_3 (y265 ++ [(⟨((rd_T64 l0_4 x26_1).f0), ((rd_T64 l0_4 x26_1).f1)⟩ : S64)]) a0_5) else (none))) = some (r1, r2, r3, r4, r5, r6, r7) := by first | (rw [hy265]; with_reducible exact H) | (have H2_ := (Option.bind_some _ _).symm.trans H; rw [hy265]; with_reducible exact H2_) | (have H2_ := (Option.bind_some _ _).symm.trans H; with_reducible exact H2_) | with_reducible exact H | (rw [hy265]; exact H) | exact H
           have Ny265 := Aq.mk hy265
           clear hy265
           by_cases c33 : ((rd_T64 l0_4 x26_1).f0).toList = a1.toList
           ·rw [if_pos c33] at H
            have c33b0 : (((rd_T64 l0_4 x26_1).f0).toList == a1.toList) = true := yc.mpr c33
            have c33b1 : (((rd_T64 l0_4 x26_1).f0).toList != a1.toList) = false := yf.mpr c33
            clear c33
            have H' := Aq.mk H
            clear H
            have hnb34 := NB241_238.out
            have hnc34 := NB238_241.out
            have hnb35 := NB241_239.out
            have hnc35 := NB239_241.out
            have hnb36 := NB241_264.out
            have hnc36 := NB264_241.out
            have hcz37_0 : wc.cell? ⟨gb241, 0, none⟩ = some (.string a0_0) := (ze BK241.out 0).trans rfl
            have hcz37_1 : wc.cell? ⟨gb241, 1, none⟩ = some (.string a0_1) := (ze BK241.out 1).trans rfl
            have hcz37_2 : wc.cell? ⟨gb241, 2, none⟩ = some (.string a0_2) := (ze BK241.out 2).trans rfl
            have hcz37_3 : wc.cell? ⟨gb241, 3, none⟩ = some (.string a0_3) := (ze BK241.out 3).trans rfl
            have hcz37_4 : wc.cell? ⟨gb241, 4, none⟩ = some (u242004) := (ze BK241.out 4).trans rfl
            have hcz37_5 : wc.cell? ⟨gb241, 5, none⟩ = some (.string a0_5) := (ze BK241.out 5).trans rfl
            have hfz37_0 := za BK241.out 0
            have hfz37_1 := za BK241.out 1
            have hfz37_2 := za BK241.out 2
            have hfz37_3 := za BK241.out 3
            have hfz37_4 := za BK241.out 4
            have hfz37_5 := za BK241.out 5
            go_wp2_with (first | ((with_reducible refine gate_builtin (b := .append) (xs := #[.tmp 39, .tmp 43]) rfl ?_); at_builtin; refine Kd.R_append k64 (w0 := w) w.heap.size rfl (.tmp 39) (.tmp 43) 22 64 (.agg #[(.string ⟨#[]⟩), (.string ⟨#[]⟩)]) 32 rfl Tryd.underlying22 info64 rfl (by decide) (by omega) u242004 x242004_1 (⟨a1, a2⟩ : S64) [.string a1, .string a2] (fun k_ => k_ ≠ gb264) (fun _ => False) rfl rfl ?aP (fun _ hk => hk.elim) ?aF ?aO ?aB ?aS ?aL ?_; (case aP => exact k64_mkM _ _ _ (⟨a1, a2⟩ : S64)); (case aB => exact (by repeat (with_reducible first | exact HB.out | apply zd | apply zb | apply zc | refine zf ?_ GE238.out | refine zf ?_ GE239.out | refine zf ?_ GE241.out | refine zf ?_ GE264.out))); (case aF => exact (fun k_ hk => Kd.freshB (g := gb264) (o := .cells #[.string ((rd_T64 l0_4 x26_1).f0), .string ((rd_T64 l0_4 x26_1).f1)] 64 (0, 0)) (by (with_reducible repeat (first | refine zg ?_ _ | refine zi ?_ | refine zh ?_ _)); exact BK264.out) k_ hk)); (case aO => exact (by (with_reducible repeat (first | apply zC | apply zB | apply zD)); exact HO_242004.out)); (case aS => exact (zz (by repeat (with_reducible first | exact HB.out | apply zd | apply zb | apply zc | refine zf ?_ GE238.out | refine zf ?_ GE239.out | refine zf ?_ GE241.out | refine zf ?_ GE264.out)))); (case aL => have := LMc32.out; omega); intro v266 w38 ho hb hg hat; rw [← Ny265.out] at ho; have n0_ := Aq.mk (yk (g := gb238) (o := .cells #[.string a0_0, .string a0_1, .string a0_2, .string a0_3, .slice (some ad263) l0_4.length c0_4, .string a0_5] 24 (0, 0)) (by (with_reducible repeat (first | refine zg ?_ _ | refine zi ?_ | refine zh ?_ _)); exact BK238.out) hg (Kd.R_ne HO_242004.out BK238.out (by decide))); have n1_ := Aq.mk (yk (g := gb239) (o := .cells #[.string (⟨#[]⟩ : ByteArray), .string (⟨#[]⟩ : ByteArray), .string (⟨#[]⟩ : ByteArray), .string (⟨#[]⟩ : ByteArray), .slice none 0 0, .string (⟨#[]⟩ : ByteArray)] 24 (0, 0)) (by (with_reducible repeat (first | refine zg ?_ _ | refine zi ?_ | refine zh ?_ _)); exact BK239.out) hg (Kd.R_ne HO_242004.out BK239.out (by decide))); have n2_ := Aq.mk (yk (g := gb241) (o := .cells #[.string a0_0, .string a0_1, .string a0_2, .string a0_3, u242004, .string a0_5] 24 (0, 0)) (by (with_reducible repeat (first | refine zg ?_ _ | refine zi ?_ | refine zh ?_ _)); exact BK241.out) hg (Kd.R_ne HO_242004.out BK241.out (by decide))); have n3_ := Aq.mk (yk (g := gb264) (o := .cells #[.string ((rd_T64 l0_4 x26_1).f0), .string ((rd_T64 l0_4 x26_1).f1)] 64 (0, 0)) (by (with_reducible repeat (first | refine zg ?_ _ | refine zi ?_ | refine zh ?_ _)); exact BK264.out) hg (Kd.R_away HO_242004.out (fun _ hk => hk))); have n4_ := Aq.mk (hb); have n5_ := Aq.mk (ho); clear BK238; clear BK239; clear BK241; clear BK264; clear HB; clear HO_242004; have BK238 := n0_; have BK239 := n1_; have BK241 := n2_; have BK264 := n3_; have HB := n4_; have HO267 := n5_; clear n0_ n1_ n2_ n3_ n4_ n5_; clear ho hb hg hat; obtain ⟨Ao39, co39, eo39⟩ := yi HO267.out; subst eo39; have hcz40_0 : w38.cell? ⟨gb241, 0, none⟩ = some (.string a0_0) := (ze BK241.out 0).trans rfl; have hcz40_1 : w38.cell? ⟨gb241, 1, none⟩ = some (.string a0_1) := (ze BK241.out 1).trans rfl; have hcz40_2 : w38.cell? ⟨gb241, 2, none⟩ = some (.string a0_2) := (ze BK241.out 2).trans rfl; have hcz40_3 : w38.cell? ⟨gb241, 3, none⟩ = some (.string a0_3) := (ze BK241.out 3).trans rfl; have hcz40_4 : w38.cell? ⟨gb241, 4, none⟩ = some (u242004) := (ze BK241.out 4).trans rfl; have hcz40_5 : w38.cell? ⟨gb241, 5, none⟩ = some (.string a0_5) := (ze BK241.out 5).trans rfl; have hfz40_0 := za BK241.out 0; have hfz40_1 := za BK241.out 1; have hfz40_2 := za BK241.out 2; have hfz40_3 := za BK241.out 3; have hfz40_4 := za BK241.out 4; have hfz40_5 := za BK241.out 5; have hnb41 := NB264_238.out; have hnc41 := NB238_264.out; have hnb42 := NB264_239.out; have hnc42 := NB239_264.out; have hcz43_0 : w38.cell? ⟨gb264, 0, none⟩ = some (.string ((rd_T64 l0_4 x26_1).f0)) := (ze BK264.out 0).trans rfl; have hcz43_1 : w38.cell? ⟨gb264, 1, none⟩ = some (.string ((rd_T64 l0_4 x26_1).f1)) := (ze BK264.out 1).trans rfl; have hfz43_0 := za BK264.out 0; have hfz43_1 := za BK264.out 1))
            go_roundg kj19
            case measure => have := HK1.out; have := HJ19.out; omega
            case rel => exact ⟨(true), (wrap64 (x26_1 + 1)), (y265), (.slice Ao39 y265.length co39), (by first | rfl | (simp; done) | (simp [*]; done)), (by first | rfl | (simp; done) | (simp [*]; done)), H', ⟨by have := HK1.out; have := HJ19.out; omega⟩, ⟨by (with_reducible repeat (first | apply zC | apply zB | apply zD)); exact Kd.R_mono (Kd.R_far (p := ⟨gb241, 4, none⟩) (Kd.R_types HO267.out BK241.out (by decide)) (fun _ hk => hk.2) (.slice Ao39 y265.length co39)) (fun _ hk => trivial)⟩, ⟨by (with_reducible repeat (first | refine zg ?_ _ | refine zi ?_ | refine zh ?_ _)); refine zx ?_ NB238_241.out _; (with_reducible repeat (first | refine zg ?_ _ | refine zi ?_ | refine zh ?_ _)); exact BK238.out⟩, ⟨by (with_reducible repeat (first | refine zg ?_ _ | refine zi ?_ | refine zh ?_ _)); refine zx ?_ NB239_241.out _; (with_reducible repeat (first | refine zg ?_ _ | refine zi ?_ | refine zh ?_ _)); exact BK239.out⟩, ⟨by (with_reducible repeat (first | refine zg ?_ _ | refine zi ?_ | refine zh ?_ _)); refine zy (cs := #[.string a0_0, .string a0_1, .string a0_2, .string a0_3, u242004, .string a0_5]) ?_ 4 _ rfl; (with_reducible repeat (first | refine zg ?_ _ | refine zi ?_ | refine zh ?_ _)); exact BK241.out⟩, ⟨by repeat (with_reducible first | exact HB.out | apply zd | apply zb | apply zc | refine zf ?_ GE238.out | refine zf ?_ GE239.out | refine zf ?_ GE241.out | refine zf ?_ GE264.out)⟩⟩
           ·rw [if_neg c33] at H
            have c33b0 : (((rd_T64 l0_4 x26_1).f0).toList == a1.toList) = false := ye.mpr c33
            have c33b1 : (((rd_T64 l0_4 x26_1).f0).toList != a1.toList) = true := yd.mpr c33
            by_cases c44 : y265.length < 4398046511104
            ·rw [if_pos c44] at H
             have LMc44 := Aq.mk c44
             clear c44
             obtain ⟨y268, hy268⟩ : ∃ y_ : List (S64), y_ = (y265 ++ [(⟨((rd_T64 l0_4 x26_1).f0), ((rd_T64 l0_4 x26_1).f1)⟩ : S64)]) := ⟨_, rfl⟩
             replace H : (r2_Qualified.l0 kj19 a1 a2 true l0_4 (l0_4.length : Int) (wrap64 (x26_1 + 1)) a0_0 a0_1 a0_2 a0_3 y268 a0_5) = some (r1, r2, r3, r4, r5, r6, r7) := by first | (rw [hy268]; with_reducible exact H) | (have H2_ := (Option.bind_some _ _).symm.trans H; rw [hy268]; with_reducible exact H2_) | (have H2_ := (Option.bind_some _ _).symm.trans H; with_reducible exact H2_) | with_reducible exact H | (rw [hy268]; exact H) | exact H
             have Ny268 := Aq.mk hy268
             clear hy268
             have H' := Aq.mk H
             clear H
             have hnb45 := NB241_238.out
             have hnc45 := NB238_241.out
             have hnb46 := NB241_239.out
             have hnc46 := NB239_241.out
             have hnb47 := NB241_264.out
             have hnc47 := NB264_241.out
             have hcz48_0 : wc.cell? ⟨gb241, 0, none⟩ = some (.string a0_0) := (ze BK241.out 0).trans rfl
             have hcz48_1 : wc.cell? ⟨gb241, 1, none⟩ = some (.string a0_1) := (ze BK241.out 1).trans rfl
             have hcz48_2 : wc.cell? ⟨gb241, 2, none⟩ = some (.string a0_2) := (ze BK241.out 2).trans rfl
             have hcz48_3 : wc.cell? ⟨gb241, 3, none⟩ = some (.string a0_3) := (ze BK241.out 3).trans rfl
             have hcz48_4 : wc.cell? ⟨gb241, 4, none⟩ = some (u242004) := (ze BK241.out 4).trans rfl
             have hcz48_5 : wc.cell? ⟨gb241, 5, none⟩ = some (.string a0_5) := (ze BK241.out 5).trans rfl
             have hfz48_0 := za BK241.out 0
             have hfz48_1 := za BK241.out 1
             have hfz48_2 := za BK241.out 2
             have hfz48_3 := za BK241.out 3
             have hfz48_4 := za BK241.out 4
             have hfz48_5 := za BK241.out 5
             go_wp2_with (first | ((with_reducible refine gate_builtin (b := .append) (xs := #[.tmp 39, .tmp 43]) rfl ?_); at_builtin; refine Kd.R_append k64 (w0 := w) w.heap.size rfl (.tmp 39) (.tmp 43) 22 64 (.agg #[(.string ⟨#[]⟩), (.string ⟨#[]⟩)]) 32 rfl Tryd.underlying22 info64 rfl (by decide) (by omega) u242004 x242004_1 (⟨a1, a2⟩ : S64) [.string a1, .string a2] (fun k_ => k_ ≠ gb264) (fun _ => False) rfl rfl ?aP (fun _ hk => hk.elim) ?aF ?aO ?aB ?aS ?aL ?_; (case aP => exact k64_mkM _ _ _ (⟨a1, a2⟩ : S64)); (case aB => exact (by repeat (with_reducible first | exact HB.out | apply zd | apply zb | apply zc | refine zf ?_ GE238.out | refine zf ?_ GE239.out | refine zf ?_ GE241.out | refine zf ?_ GE264.out))); (case aF => exact (fun k_ hk => Kd.freshB (g := gb264) (o := .cells #[.string ((rd_T64 l0_4 x26_1).f0), .string ((rd_T64 l0_4 x26_1).f1)] 64 (0, 0)) (by (with_reducible repeat (first | refine zg ?_ _ | refine zi ?_ | refine zh ?_ _)); exact BK264.out) k_ hk)); (case aO => exact (by (with_reducible repeat (first | apply zC | apply zB | apply zD)); exact HO_242004.out)); (case aS => exact (zz (by repeat (with_reducible first | exact HB.out | apply zd | apply zb | apply zc | refine zf ?_ GE238.out | refine zf ?_ GE239.out | refine zf ?_ GE241.out | refine zf ?_ GE264.out)))); (case aL => have := LMc32.out; omega); intro v266 w49 ho hb hg hat; rw [← Ny265.out] at ho; have n0_ := Aq.mk (yk (g := gb238) (o := .cells #[.string a0_0, .string a0_1, .string a0_2, .string a0_3, .slice (some ad263) l0_4.length c0_4, .string a0_5] 24 (0, 0)) (by (with_reducible repeat (first | refine zg ?_ _ | refine zi ?_ | refine zh ?_ _)); exact BK238.out) hg (Kd.R_ne HO_242004.out BK238.out (by decide))); have n1_ := Aq.mk (yk (g := gb239) (o := .cells #[.string (⟨#[]⟩ : ByteArray), .string (⟨#[]⟩ : ByteArray), .string (⟨#[]⟩ : ByteArray), .string (⟨#[]⟩ : ByteArray), .slice none 0 0, .string (⟨#[]⟩ : ByteArray)] 24 (0, 0)) (by (with_reducible repeat (first | refine zg ?_ _ | refine zi ?_ | refine zh ?_ _)); exact BK239.out) hg (Kd.R_ne HO_242004.out BK239.out (by decide))); have n2_ := Aq.mk (yk (g := gb241) (o := .cells #[.string a0_0, .string a0_1, .string a0_2, .string a0_3, u242004, .string a0_5] 24 (0, 0)) (by (with_reducible repeat (first | refine zg ?_ _ | refine zi ?_ | refine zh ?_ _)); exact BK241.out) hg (Kd.R_ne HO_242004.out BK241.out (by decide))); have n3_ := Aq.mk (yk (g := gb264) (o := .cells #[.string ((rd_T64 l0_4 x26_1).f0), .string ((rd_T64 l0_4 x26_1).f1)] 64 (0, 0)) (by (with_reducible repeat (first | refine zg ?_ _ | refine zi ?_ | refine zh ?_ _)); exact BK264.out) hg (Kd.R_away HO_242004.out (fun _ hk => hk))); have n4_ := Aq.mk (hb); have n5_ := Aq.mk (ho); clear BK238; clear BK239; clear BK241; clear BK264; clear HB; clear HO_242004; have BK238 := n0_; have BK239 := n1_; have BK241 := n2_; have BK264 := n3_; have HB := n4_; have HO267 := n5_; clear n0_ n1_ n2_ n3_ n4_ n5_; clear ho hb hg hat; obtain ⟨Ao50, co50, eo50⟩ := yi HO267.out; subst eo50; have hcz51_0 : w49.cell? ⟨gb241, 0, none⟩ = some (.string a0_0) := (ze BK241.out 0).trans rfl; have hcz51_1 : w49.cell? ⟨gb241, 1, none⟩ = some (.string a0_1) := (ze BK241.out 1).trans rfl; have hcz51_2 : w49.cell? ⟨gb241, 2, none⟩ = some (.string a0_2) := (ze BK241.out 2).trans rfl; have hcz51_3 : w49.cell? ⟨gb241, 3, none⟩ = some (.string a0_3) := (ze BK241.out 3).trans rfl; have hcz51_4 : w49.cell? ⟨gb241, 4, none⟩ = some (u242004) := (ze BK241.out 4).trans rfl; have hcz51_5 : w49.cell? ⟨gb241, 5, none⟩ = some (.string a0_5) := (ze BK241.out 5).trans rfl; have hfz51_0 := za BK241.out 0; have hfz51_1 := za BK241.out 1; have hfz51_2 := za BK241.out 2; have hfz51_3 := za BK241.out 3; have hfz51_4 := za BK241.out 4; have hfz51_5 := za BK241.out 5; have hnb52 := NB264_238.out; have hnc52 := NB238_264.out; have hnb53 := NB264_239.out; have hnc53 := NB239_264.out; have hcz54_0 : w49.cell? ⟨gb264, 0, none⟩ = some (.string ((rd_T64 l0_4 x26_1).f0)) := (ze BK264.out 0).trans rfl; have hcz54_1 : w49.cell? ⟨gb264, 1, none⟩ = some (.string ((rd_T64 l0_4 x26_1).f1)) := (ze BK264.out 1).trans rfl; have hfz54_0 := za BK264.out 0; have hfz54_1 := za BK264.out 1) | ((with_reducible refine gate_builtin (b := .append) (xs := #[.tmp 51, .tmp 53]) rfl ?_); at_builtin; refine Kd.R_append k64 (w0 := w) w.heap.size rfl (.tmp 51) (.tmp 53) 22 64 (.agg #[(.string ⟨#[]⟩), (.string ⟨#[]⟩)]) 32 rfl Tryd.underlying22 info64 rfl (by decide) (by omega) (.slice Ao50 y265.length co50) y265 (⟨((rd_T64 l0_4 x26_1).f0), ((rd_T64 l0_4 x26_1).f1)⟩ : S64) [.string ((rd_T64 l0_4 x26_1).f0), .string ((rd_T64 l0_4 x26_1).f1)] (fun k_ => k_ ≠ gb264) (fun _ => False) rfl (by first | (go_simp; done) | (go_simp; rfl)) ?aP (fun _ hk => hk.elim) ?aF ?aO ?aB ?aS ?aL ?_; (case aP => exact k64_mkM _ _ _ (⟨((rd_T64 l0_4 x26_1).f0), ((rd_T64 l0_4 x26_1).f1)⟩ : S64)); (case aB => exact (by repeat (with_reducible first | exact HB.out | apply zd | apply zb | apply zc | refine zf ?_ GE238.out | refine zf ?_ GE239.out | refine zf ?_ GE241.out | refine zf ?_ GE264.out))); (case aF => exact (fun k_ hk => Kd.freshB (g := gb264) (o := .cells #[.string ((rd_T64 l0_4 x26_1).f0), .string ((rd_T64 l0_4 x26_1).f1)] 64 (0, 0)) (by (with_reducible repeat (first | refine zg ?_ _ | refine zi ?_ | refine zh ?_ _)); refine zx ?_ NB264_241.out _; (with_reducible repeat (first | refine zg ?_ _ | refine zi ?_ | refine zh ?_ _)); exact BK264.out) k_ hk)); (case aO => exact (by (with_reducible repeat (first | apply zC | apply zB | apply zD)); exact Kd.R_mono (Kd.R_far (p := ⟨gb241, 4, none⟩) (Kd.R_types HO267.out BK241.out (by decide)) (fun _ hk => hk.2) (.slice Ao50 y265.length co50)) (fun _ hk => hk.1))); (case aS => exact (zz (by repeat (with_reducible first | exact HB.out | apply zd | apply zb | apply zc | refine zf ?_ GE238.out | refine zf ?_ GE239.out | refine zf ?_ GE241.out | refine zf ?_ GE264.out)))); (case aL => have := LMc44.out; omega); intro v269 w55 ho hb hg hat; rw [← Ny268.out] at ho; have n0_ := Aq.mk (yk (g := gb238) (o := .cells #[.string a0_0, .string a0_1, .string a0_2, .string a0_3, .slice (some ad263) l0_4.length c0_4, .string a0_5] 24 (0, 0)) (by (with_reducible repeat (first | refine zg ?_ _ | refine zi ?_ | refine zh ?_ _)); refine zx ?_ NB238_241.out _; (with_reducible repeat (first | refine zg ?_ _ | refine zi ?_ | refine zh ?_ _)); exact BK238.out) hg (Kd.R_ne HO267.out BK238.out (by decide))); have n1_ := Aq.mk (yk (g := gb239) (o := .cells #[.string (⟨#[]⟩ : ByteArray), .string (⟨#[]⟩ : ByteArray), .string (⟨#[]⟩ : ByteArray), .string (⟨#[]⟩ : ByteArray), .slice none 0 0, .string (⟨#[]⟩ : ByteArray)] 24 (0, 0)) (by (with_reducible repeat (first | refine zg ?_ _ | refine zi ?_ | refine zh ?_ _)); refine zx ?_ NB239_241.out _; (with_reducible repeat (first | refine zg ?_ _ | refine zi ?_ | refine zh ?_ _)); exact BK239.out) hg (Kd.R_ne HO267.out BK239.out (by decide))); have n2_ := Aq.mk (yk (g := gb241) (o := .cells #[.string a0_0, .string a0_1, .string a0_2, .string a0_3, .slice Ao50 y265.length co50, .string a0_5] 24 (0, 0)) (by (with_reducible repeat (first | refine zg ?_ _ | refine zi ?_ | refine zh ?_ _)); refine zy (cs := #[.string a0_0, .string a0_1, .string a0_2, .string a0_3, u242004, .string a0_5]) ?_ 4 _ rfl; (with_reducible repeat (first | refine zg ?_ _ | refine zi ?_ | refine zh ?_ _)); exact BK241.out) hg (Kd.R_ne HO267.out BK241.out (by decide))); have n3_ := Aq.mk (yk (g := gb264) (o := .cells #[.string ((rd_T64 l0_4 x26_1).f0), .string ((rd_T64 l0_4 x26_1).f1)] 64 (0, 0)) (by (with_reducible repeat (first | refine zg ?_ _ | refine zi ?_ | refine zh ?_ _)); refine zx ?_ NB264_241.out _; (with_reducible repeat (first | refine zg ?_ _ | refine zi ?_ | refine zh ?_ _)); exact BK264.out) hg (Kd.R_away HO267.out (fun _ hk => hk))); have n4_ := Aq.mk (hb); have n5_ := Aq.mk (ho); clear BK238; clear BK239; clear BK241; clear BK264; clear HB; clear HO267; have BK238 := n0_; have BK239 := n1_; have BK241 := n2_; have BK264 := n3_; have HB := n4_; have HO270 := n5_; clear n0_ n1_ n2_ n3_ n4_ n5_; clear ho hb hg hat; obtain ⟨Ao56, co56, eo56⟩ := yi HO270.out; subst eo56; have hcz57_0 : w55.cell? ⟨gb241, 0, none⟩ = some (.string a0_0) := (ze BK241.out 0).trans rfl; have hcz57_1 : w55.cell? ⟨gb241, 1, none⟩ = some (.string a0_1) := (ze BK241.out 1).trans rfl; have hcz57_2 : w55.cell? ⟨gb241, 2, none⟩ = some (.string a0_2) := (ze BK241.out 2).trans rfl; have hcz57_3 : w55.cell? ⟨gb241, 3, none⟩ = some (.string a0_3) := (ze BK241.out 3).trans rfl; have hcz57_4 : w55.cell? ⟨gb241, 4, none⟩ = some (.slice Ao50 y265.length co50) := (ze BK241.out 4).trans rfl; have hcz57_5 : w55.cell? ⟨gb241, 5, none⟩ = some (.string a0_5) := (ze BK241.out 5).trans rfl; have hfz57_0 := za BK241.out 0; have hfz57_1 := za BK241.out 1; have hfz57_2 := za BK241.out 2; have hfz57_3 := za BK241.out 3; have hfz57_4 := za BK241.out 4; have hfz57_5 := za BK241.out 5))
             go_roundg kj19
             case measure => have := HK1.out; have := HJ19.out; omega
             case rel => exact ⟨(true), (wrap64 (x26_1 + 1)), (y268), (.slice Ao56 y268.length co56), (by first | rfl | (simp; done) | (simp [*]; done)), (by first | rfl | (simp; done) | (simp [*]; done)), H', ⟨by have := HK1.out; have := HJ19.out; omega⟩, ⟨by (with_reducible repeat (first | apply zC | apply zB | apply zD)); exact Kd.R_mono (Kd.R_far (p := ⟨gb241, 4, none⟩) (Kd.R_types HO270.out BK241.out (by decide)) (fun _ hk => hk.2) (.slice Ao56 y268.length co56)) (fun _ hk => trivial)⟩, ⟨by (with_reducible repeat (first | refine zg ?_ _ | refine zi ?_ | refine zh ?_ _)); refine zx ?_ NB238_241.out _; (with_reducible repeat (first | refine zg ?_ _ | refine zi ?_ | refine zh ?_ _)); exact BK238.out⟩, ⟨by (with_reducible repeat (first | refine zg ?_ _ | refine zi ?_ | refine zh ?_ _)); refine zx ?_ NB239_241.out _; (with_reducible repeat (first | refine zg ?_ _ | refine zi ?_ | refine zh ?_ _)); exact BK239.out⟩, ⟨by (with_reducible repeat (first | refine zg ?_ _ | refine zi ?_ | refine zh ?_ _)); refine zy (cs := #[.string a0_0, .string a0_1, .string a0_2, .string a0_3, .slice Ao50 y265.length co50, .string a0_5]) ?_ 4 _ rfl; (with_reducible repeat (first | refine zg ?_ _ | refine zi ?_ | refine zh ?_ _)); exact BK241.out⟩, ⟨by repeat (with_reducible first | exact HB.out | apply zd | apply zb | apply zc | refine zf ?_ GE238.out | refine zf ?_ GE239.out | refine zf ?_ GE241.out | refine zf ?_ GE264.out)⟩⟩
            ·rw [if_neg c44] at H
             exact absurd H (by simp)
          ·rw [if_neg c32] at H
           exact absurd H (by simp)
         ·replace c31 := Bool.eq_false_iff.mpr c31
          subst c31
          have H1 : (if ((rd_T64 l0_4 x26_1).f0).toList = a1.toList then (r2_Qualified.l0 kj19 a1 a2 x10_1 l0_4 (l0_4.length : Int) (wrap64 (x26_1 + 1)) a0_0 a0_1 a0_2 a0_3 x242004_1 a0_5) else (if x242004_1.length < 4398046511104 then (r2_Qualified.l0 kj19 a1 a2 x10_1 l0_4 (l0_4.length : Int) (wrap64 (x26_1 + 1)) a0_0 a0_1 a0_2 a0_3 (x242004_1 ++ [(⟨((rd_T64 l0_4 x26_1).f0), ((rd_T64 l0_4 x26_1).f1)⟩ : S64)]) a0_5) else (none))) = some (r1, r2, r3, r4, r5, r6, r7) := by rw [if_neg (show ¬ (false = true) by decide)] at H; exact H
          clear H
          have H := H1
          clear H1
          by_cases c58 : ((rd_T64 l0_4 x26_1).f0).toList = a1.toList
          ·rw [if_pos c58] at H
           have c58b0 : (((rd_T64 l0_4 x26_1).f0).toList == a1.toList) = true := yc.mpr c58
           have c58b1 : (((rd_T64 l0_4 x26_1).f0).toList != a1.toList) = false := yf.mpr c58
           clear c58
           have H' := Aq.mk H
           clear H
           have hnb59 := NB264_238.out
           have hnc59 := NB238_264.out
           have hnb60 := NB264_239.out
           have hnc60 := NB239_264.out
           have hnb61 := NB264_241.out
           have hnc61 := NB241_264.out
           have hcz62_0 : wc.cell? ⟨gb264, 0, none⟩ = some (.string ((rd_T64 l0_4 x26_1).f0)) := (ze BK264.out 0).trans rfl
           have hcz62_1 : wc.cell? ⟨gb264, 1, none⟩ = some (.string ((rd_T64 l0_4 x26_1).f1)) := (ze BK264.out 1).trans rfl
           have hfz62_0 := za BK264.out 0
           have hfz62_1 := za BK264.out 1
           go_wp2
           go_roundg kj19
           case measure => have := HK1.out; have := HJ19.out; omega
           case rel => exact ⟨(x10_1), (wrap64 (x26_1 + 1)), (x242004_1), (u242004), (by first | rfl | (simp; done) | (simp [*]; done)), (by first | rfl | (simp; done) | (simp [*]; done)), H', ⟨by have := HK1.out; have := HJ19.out; omega⟩, ⟨by (with_reducible repeat (first | apply zC | apply zB | apply zD)); exact Kd.R_mono HO_242004.out (fun _ hk => trivial)⟩, ⟨by (with_reducible repeat (first | refine zg ?_ _ | refine zi ?_ | refine zh ?_ _)); exact BK238.out⟩, ⟨by (with_reducible repeat (first | refine zg ?_ _ | refine zi ?_ | refine zh ?_ _)); exact BK239.out⟩, ⟨by (with_reducible repeat (first | refine zg ?_ _ | refine zi ?_ | refine zh ?_ _)); exact BK241.out⟩, ⟨by repeat (with_reducible first | exact HB.out | apply zd | apply zb | apply zc | refine zf ?_ GE238.out | refine zf ?_ GE239.out | refine zf ?_ GE241.out | refine zf ?_ GE264.out)⟩⟩
          ·rw [if_neg c58] at H
           have c58b0 : (((rd_T64 l0_4 x26_1).f0).toList == a1.toList) = false := ye.mpr c58
           have c58b1 : (((rd_T64 l0_4 x26_1).f0).toList != a1.toList) = true := yd.mpr c58
           by_cases c63 : x242004_1.length < 4398046511104
           ·rw [if_pos c63] at H
            have LMc63 := Aq.mk c63
            clear c63
            obtain ⟨y271, hy271⟩ : ∃ y_ : List (S64), y_ = (x242004_1 ++ [(⟨((rd_T64 l0_4 x26_1).f0), ((rd_T64 l0_4 x26_1).f1)⟩ : S64)]) := ⟨_, rfl⟩
            replace H : (r2_Qualified.l0 kj19 a1 a2 x10_1 l0_4 (l0_4.length : Int) (wrap64 (x26_1 + 1)) a0_0 a0_1 a0_2 a0_3 y271 a0_5) = some (r1, r2, r3, r4, r5, r6, r7) := by first | (rw [hy271]; with_reducible exact H) | (have H2_ := (Option.bind_some _ _).symm.trans H; rw [hy271]; with_reducible exact H2_) | (have H2_ := (Option.bind_some _ _).symm.trans H; with_reducible exact H2_) | with_reducible exact H | (rw [hy271]; exact H) | exact H
            have Ny271 := Aq.mk hy271
            clear hy271
            have H' := Aq.mk H
            clear H
            have hnb64 := NB264_238.out
            have hnc64 := NB238_264.out
            have hnb65 := NB264_239.out
            have hnc65 := NB239_264.out
            have hnb66 := NB264_241.out
            have hnc66 := NB241_264.out
            have hcz67_0 : wc.cell? ⟨gb264, 0, none⟩ = some (.string ((rd_T64 l0_4 x26_1).f0)) := (ze BK264.out 0).trans rfl
            have hcz67_1 : wc.cell? ⟨gb264, 1, none⟩ = some (.string ((rd_T64 l0_4 x26_1).f1)) := (ze BK264.out 1).trans rfl
            have hfz67_0 := za BK264.out 0
            have hfz67_1 := za BK264.out 1
            have hnb68 := NB241_238.out
            have hnc68 := NB238_241.out
            have hnb69 := NB241_239.out
            have hnc69 := NB239_241.out
            have hcz70_0 : wc.cell? ⟨gb241, 0, none⟩ = some (.string a0_0) := (ze BK241.out 0).trans rfl
            have hcz70_1 : wc.cell? ⟨gb241, 1, none⟩ = some (.string a0_1) := (ze BK241.out 1).trans rfl
            have hcz70_2 : wc.cell? ⟨gb241, 2, none⟩ = some (.string a0_2) := (ze BK241.out 2).trans rfl
            have hcz70_3 : wc.cell? ⟨gb241, 3, none⟩ = some (.string a0_3) := (ze BK241.out 3).trans rfl
            have hcz70_4 : wc.cell? ⟨gb241, 4, none⟩ = some (u242004) := (ze BK241.out 4).trans rfl
            have hcz70_5 : wc.cell? ⟨gb241, 5, none⟩ = some (.string a0_5) := (ze BK241.out 5).trans rfl
            have hfz70_0 := za BK241.out 0
            have hfz70_1 := za BK241.out 1
            have hfz70_2 := za BK241.out 2
            have hfz70_3 := za BK241.out 3
            have hfz70_4 := za BK241.out 4
            have hfz70_5 := za BK241.out 5
            go_wp2_with (first | ((with_reducible refine gate_builtin (b := .append) (xs := #[.tmp 51, .tmp 53]) rfl ?_); at_builtin; refine Kd.R_append k64 (w0 := w) w.heap.size rfl (.tmp 51) (.tmp 53) 22 64 (.agg #[(.string ⟨#[]⟩), (.string ⟨#[]⟩)]) 32 rfl Tryd.underlying22 info64 rfl (by decide) (by omega) u242004 x242004_1 (⟨((rd_T64 l0_4 x26_1).f0), ((rd_T64 l0_4 x26_1).f1)⟩ : S64) [.string ((rd_T64 l0_4 x26_1).f0), .string ((rd_T64 l0_4 x26_1).f1)] (fun k_ => k_ ≠ gb264) (fun _ => False) rfl rfl ?aP (fun _ hk => hk.elim) ?aF ?aO ?aB ?aS ?aL ?_; (case aP => exact k64_mkM _ _ _ (⟨((rd_T64 l0_4 x26_1).f0), ((rd_T64 l0_4 x26_1).f1)⟩ : S64)); (case aB => exact (by repeat (with_reducible first | exact HB.out | apply zd | apply zb | apply zc | refine zf ?_ GE238.out | refine zf ?_ GE239.out | refine zf ?_ GE241.out | refine zf ?_ GE264.out))); (case aF => exact (fun k_ hk => Kd.freshB (g := gb264) (o := .cells #[.string ((rd_T64 l0_4 x26_1).f0), .string ((rd_T64 l0_4 x26_1).f1)] 64 (0, 0)) (by (with_reducible repeat (first | refine zg ?_ _ | refine zi ?_ | refine zh ?_ _)); exact BK264.out) k_ hk)); (case aO => exact (by (with_reducible repeat (first | apply zC | apply zB | apply zD)); exact HO_242004.out)); (case aS => exact (zz (by repeat (with_reducible first | exact HB.out | apply zd | apply zb | apply zc | refine zf ?_ GE238.out | refine zf ?_ GE239.out | refine zf ?_ GE241.out | refine zf ?_ GE264.out)))); (case aL => have := LMc63.out; omega); intro v272 w71 ho hb hg hat; rw [← Ny271.out] at ho; have n0_ := Aq.mk (yk (g := gb238) (o := .cells #[.string a0_0, .string a0_1, .string a0_2, .string a0_3, .slice (some ad263) l0_4.length c0_4, .string a0_5] 24 (0, 0)) (by (with_reducible repeat (first | refine zg ?_ _ | refine zi ?_ | refine zh ?_ _)); exact BK238.out) hg (Kd.R_ne HO_242004.out BK238.out (by decide))); have n1_ := Aq.mk (yk (g := gb239) (o := .cells #[.string (⟨#[]⟩ : ByteArray), .string (⟨#[]⟩ : ByteArray), .string (⟨#[]⟩ : ByteArray), .string (⟨#[]⟩ : ByteArray), .slice none 0 0, .string (⟨#[]⟩ : ByteArray)] 24 (0, 0)) (by (with_reducible repeat (first | refine zg ?_ _ | refine zi ?_ | refine zh ?_ _)); exact BK239.out) hg (Kd.R_ne HO_242004.out BK239.out (by decide))); have n2_ := Aq.mk (yk (g := gb241) (o := .cells #[.string a0_0, .string a0_1, .string a0_2, .string a0_3, u242004, .string a0_5] 24 (0, 0)) (by (with_reducible repeat (first | refine zg ?_ _ | refine zi ?_ | refine zh ?_ _)); exact BK241.out) hg (Kd.R_ne HO_242004.out BK241.out (by decide))); have n3_ := Aq.mk (yk (g := gb264) (o := .cells #[.string ((rd_T64 l0_4 x26_1).f0), .string ((rd_T64 l0_4 x26_1).f1)] 64 (0, 0)) (by (with_reducible repeat (first | refine zg ?_ _ | refine zi ?_ | refine zh ?_ _)); exact BK264.out) hg (Kd.R_away HO_242004.out (fun _ hk => hk))); have n4_ := Aq.mk (hb); have n5_ := Aq.mk (ho); clear BK238; clear BK239; clear BK241; clear BK264; clear HB; clear HO_242004; have BK238 := n0_; have BK239 := n1_; have BK241 := n2_; have BK264 := n3_; have HB := n4_; have HO273 := n5_; clear n0_ n1_ n2_ n3_ n4_ n5_; clear ho hb hg hat; obtain ⟨Ao72, co72, eo72⟩ := yi HO273.out; subst eo72; have hcz73_0 : w71.cell? ⟨gb241, 0, none⟩ = some (.string a0_0) := (ze BK241.out 0).trans rfl; have hcz73_1 : w71.cell? ⟨gb241, 1, none⟩ = some (.string a0_1) := (ze BK241.out 1).trans rfl; have hcz73_2 : w71.cell? ⟨gb241, 2, none⟩ = some (.string a0_2) := (ze BK241.out 2).trans rfl; have hcz73_3 : w71.cell? ⟨gb241, 3, none⟩ = some (.string a0_3) := (ze BK241.out 3).trans rfl; have hcz73_4 : w71.cell? ⟨gb241, 4, none⟩ = some (u242004) := (ze BK241.out 4).trans rfl; have hcz73_5 : w71.cell? ⟨gb241, 5, none⟩ = some (.string a0_5) := (ze BK241.out 5).trans rfl; have hfz73_0 := za BK241.out 0; have hfz73_1 := za BK241.out 1; have hfz73_2 := za BK241.out 2; have hfz73_3 := za BK241.out 3; have hfz73_4 := za BK241.out 4; have hfz73_5 := za BK241.out 5))
            go_roundg kj19
            case measure => have := HK1.out; have := HJ19.out; omega
            case rel => exact ⟨(x10_1), (wrap64 (x26_1 + 1)), (y271), (.slice Ao72 y271.length co72), (by first | rfl | (simp; done) | (simp [*]; done)), (by first | rfl | (simp; done) | (simp [*]; done)), H', ⟨by have := HK1.out; have := HJ19.out; omega⟩, ⟨by (with_reducible repeat (first | apply zC | apply zB | apply zD)); exact Kd.R_mono (Kd.R_far (p := ⟨gb241, 4, none⟩) (Kd.R_types HO273.out BK241.out (by decide)) (fun _ hk => hk.2) (.slice Ao72 y271.length co72)) (fun _ hk => trivial)⟩, ⟨by (with_reducible repeat (first | refine zg ?_ _ | refine zi ?_ | refine zh ?_ _)); refine zx ?_ NB238_241.out _; (with_reducible repeat (first | refine zg ?_ _ | refine zi ?_ | refine zh ?_ _)); exact BK238.out⟩, ⟨by (with_reducible repeat (first | refine zg ?_ _ | refine zi ?_ | refine zh ?_ _)); refine zx ?_ NB239_241.out _; (with_reducible repeat (first | refine zg ?_ _ | refine zi ?_ | refine zh ?_ _)); exact BK239.out⟩, ⟨by (with_reducible repeat (first | refine zg ?_ _ | refine zi ?_ | refine zh ?_ _)); refine zy (cs := #[.string a0_0, .string a0_1, .string a0_2, .string a0_3, u242004, .string a0_5]) ?_ 4 _ rfl; (with_reducible repeat (first | refine zg ?_ _ | refine zi ?_ | refine zh ?_ _)); exact BK241.out⟩, ⟨by repeat (with_reducible first | exact HB.out | apply zd | apply zb | apply zc | refine zf ?_ GE238.out | refine zf ?_ GE239.out | refine zf ?_ GE241.out | refine zf ?_ GE264.out)⟩⟩
           ·rw [if_neg c63] at H
            exact absurd H (by simp)
      ·rw [if_neg c19] at H
       exact absurd H (by simp)
     ·rw [if_neg c18] at H
      exact absurd H (by simp)
    ·rw [if_neg c17] at H
     have c17b0 : decide (x26_1 < (l0_4.length : Int)) = false := zl c17
     clear c17
     by_cases c74 : x10_1 = true
     ·subst c74
      have H1 : ((r2_Canonical.f k1 a0_0 a0_1 a0_2 a0_3 x242004_1 a0_5).bind fun bt242 => (some (bt242.1, bt242.2.1, bt242.2.2.1, bt242.2.2.2.1, bt242.2.2.2.2.1, bt242.2.2.2.2.2.1, bt242.2.2.2.2.2.2))) = some (r1, r2, r3, r4, r5, r6, r7) := by rw [if_pos rfl] at H; exact H
      clear H
      have H := H1
      clear H1
      replace H := zu.mp H
      obtain ⟨⟨t242, t243, t244, t245, t246, t249, t250⟩, A750, H⟩ := H
      replace H : (some (t242, t243, t244, t245, t246, t249, t250)) = some (r1, r2, r3, r4, r5, r6, r7) := H
      have A75 := Aq.mk A750
      clear A750
      simp only [zH, zI] at H
      obtain ⟨rfl, rfl, rfl, rfl, rfl, rfl, rfl⟩ := H
      have hnb76 := NB241_238.out
      have hnc76 := NB238_241.out
      have hnb77 := NB241_239.out
      have hnc77 := NB239_241.out
      have hcz78_0 : wr.cell? ⟨gb241, 0, none⟩ = some (.string a0_0) := (ze BK241.out 0).trans rfl
      have hcz78_1 : wr.cell? ⟨gb241, 1, none⟩ = some (.string a0_1) := (ze BK241.out 1).trans rfl
      have hcz78_2 : wr.cell? ⟨gb241, 2, none⟩ = some (.string a0_2) := (ze BK241.out 2).trans rfl
      have hcz78_3 : wr.cell? ⟨gb241, 3, none⟩ = some (.string a0_3) := (ze BK241.out 3).trans rfl
      have hcz78_4 : wr.cell? ⟨gb241, 4, none⟩ = some (u242004) := (ze BK241.out 4).trans rfl
      have hcz78_5 : wr.cell? ⟨gb241, 5, none⟩ = some (.string a0_5) := (ze BK241.out 5).trans rfl
      have hfz78_0 := za BK241.out 0
      have hfz78_1 := za BK241.out 1
      have hfz78_2 := za BK241.out 2
      have hfz78_3 := za BK241.out 3
      have hfz78_4 := za BK241.out 4
      have hfz78_5 := za BK241.out 5
      obtain ⟨Ao79, co79, eo79⟩ := yi HO_242004.out
      subst eo79
      go_wp2_with (first | ((with_reducible refine gate_callee (f := 15) rfl ?_); refine goesL_ (some 68) rfl rfl Tryd.func15 (by kernel_rfl) rfl #[.agg #[.string a0_0, .string a0_1, .string a0_2, .string a0_3, .slice Ao79 x242004_1.length co79, .string a0_5]] rfl (by (try simp only [zP, zQ, zR]); first | done | rfl | (simp only [zS, zT]; rfl)) ?_; (with_reducible refine (r2_Canonical.calls k1 a0_0 a0_1 a0_2 a0_3 _ _ x242004_1 a0_5 t242 t243 t244 t245 t246 t249 t250 _ ?side1 ?side2 A75.out).mono ?_); (case side1 => repeat (first | exact (Kd.R_reads' HO_242004.out).2.2 | (with_reducible refine zF ?_ _) | (with_reducible refine zE ?_ _) | (with_reducible refine zG ?_))); (case side2 => exact (Kd.R_reads' HO_242004.out).2.1); rintro e w80 ⟨v247, rfl, ho0, hb⟩; refine ⟨_, rfl, ?_⟩; have n0_ := Aq.mk (Kd.R_elder' (by (with_reducible repeat (first | apply zC | apply zB | apply zD)); exact HO_242004.out) (Kd.R_base ho0) hb); have n1_ := Aq.mk (zX (Kd.R_new' ho0 (Kd.R_lt (by (with_reducible repeat (first | apply zC | apply zB | apply zD)); exact HO_242004.out))) (zz (by repeat (with_reducible first | exact HB.out | apply zd | apply zb | apply zc | refine zf ?_ GE238.out | refine zf ?_ GE239.out | refine zf ?_ GE241.out)))); have n2_ := Aq.mk (zw (g := gb238) (o := .cells #[.string a0_0, .string a0_1, .string a0_2, .string a0_3, .slice A0_4 l0_4.length c0_4, .string a0_5] 24 (0, 0)) (by (with_reducible repeat (first | refine zg ?_ _ | refine zi ?_ | refine zh ?_ _)); exact BK238.out) hb); have n3_ := Aq.mk (zw (g := gb239) (o := .cells #[.string (⟨#[]⟩ : ByteArray), .string (⟨#[]⟩ : ByteArray), .string (⟨#[]⟩ : ByteArray), .string (⟨#[]⟩ : ByteArray), .slice none 0 0, .string (⟨#[]⟩ : ByteArray)] 24 (0, 0)) (by (with_reducible repeat (first | refine zg ?_ _ | refine zi ?_ | refine zh ?_ _)); exact BK239.out) hb); have n4_ := Aq.mk (zw (g := gb241) (o := .cells #[.string a0_0, .string a0_1, .string a0_2, .string a0_3, .slice Ao79 x242004_1.length co79, .string a0_5] 24 (0, 0)) (by (with_reducible repeat (first | refine zg ?_ _ | refine zi ?_ | refine zh ?_ _)); exact BK241.out) hb); have n5_ := Aq.mk (zv (by repeat (with_reducible first | exact HB.out | apply zd | apply zb | apply zc | refine zf ?_ GE238.out | refine zf ?_ GE239.out | refine zf ?_ GE241.out)) hb); clear HO_242004; clear BK238; clear BK239; clear BK241; clear HB; have HO_242004 := n0_; have HO248 := n1_; have BK238 := n2_; have BK239 := n3_; have BK241 := n4_; have HB := n5_; clear n0_ n1_ n2_ n3_ n4_ n5_; (try clear hb); (try clear hb2); (try clear hk); (try clear hi); (try clear ho0); have hnb81 := NB239_238.out; have hnc81 := NB238_239.out; have hcz82_0 : w80.cell? ⟨gb239, 0, none⟩ = some (.string (⟨#[]⟩ : ByteArray)) := (ze BK239.out 0).trans rfl; have hcz82_1 : w80.cell? ⟨gb239, 1, none⟩ = some (.string (⟨#[]⟩ : ByteArray)) := (ze BK239.out 1).trans rfl; have hcz82_2 : w80.cell? ⟨gb239, 2, none⟩ = some (.string (⟨#[]⟩ : ByteArray)) := (ze BK239.out 2).trans rfl; have hcz82_3 : w80.cell? ⟨gb239, 3, none⟩ = some (.string (⟨#[]⟩ : ByteArray)) := (ze BK239.out 3).trans rfl; have hcz82_4 : w80.cell? ⟨gb239, 4, none⟩ = some (.slice none 0 0) := (ze BK239.out 4).trans rfl; have hcz82_5 : w80.cell? ⟨gb239, 5, none⟩ = some (.string (⟨#[]⟩ : ByteArray)) := (ze BK239.out 5).trans rfl; have hfz82_0 := za BK239.out 0; have hfz82_1 := za BK239.out 1; have hfz82_2 := za BK239.out 2; have hfz82_3 := za BK239.out 3; have hfz82_4 := za BK239.out 4; have hfz82_5 := za BK239.out 5; obtain ⟨Ao83, co83, eo83⟩ := yi HO248.out; subst eo83))
      refine bodyPost_ret (results_ct rfl _ _ gb239 24 #[.string t242, .string t243, .string t244, .string t245, .slice Ao83 t246.length co83, .string t249] (0, 0) _ rfl (by (with_reducible repeat (first | refine zg ?_ _ | refine zi ?_ | refine zh ?_ _)); refine zy (cs := #[.string t242, .string t243, .string t244, .string t245, .slice Ao83 t246.length co83, .string (⟨#[]⟩ : ByteArray)]) ?_ 5 _ rfl; (with_reducible repeat (first | refine zg ?_ _ | refine zi ?_ | refine zh ?_ _)); refine zy (cs := #[.string t242, .string t243, .string t244, .string t245, .slice none 0 0, .string (⟨#[]⟩ : ByteArray)]) ?_ 4 _ rfl; (with_reducible repeat (first | refine zg ?_ _ | refine zi ?_ | refine zh ?_ _)); refine zy (cs := #[.string t242, .string t243, .string t244, .string (⟨#[]⟩ : ByteArray), .slice none 0 0, .string (⟨#[]⟩ : ByteArray)]) ?_ 3 _ rfl; (with_reducible repeat (first | refine zg ?_ _ | refine zi ?_ | refine zh ?_ _)); refine zy (cs := #[.string t242, .string t243, .string (⟨#[]⟩ : ByteArray), .string (⟨#[]⟩ : ByteArray), .slice none 0 0, .string (⟨#[]⟩ : ByteArray)]) ?_ 2 _ rfl; (with_reducible repeat (first | refine zg ?_ _ | refine zi ?_ | refine zh ?_ _)); refine zy (cs := #[.string t242, .string (⟨#[]⟩ : ByteArray), .string (⟨#[]⟩ : ByteArray), .string (⟨#[]⟩ : ByteArray), .slice none 0 0, .string (⟨#[]⟩ : ByteArray)]) ?_ 1 _ rfl; (with_reducible repeat (first | refine zg ?_ _ | refine zi ?_ | refine zh ?_ _)); refine zy (cs := #[.string (⟨#[]⟩ : ByteArray), .string (⟨#[]⟩ : ByteArray), .string (⟨#[]⟩ : ByteArray), .string (⟨#[]⟩ : ByteArray), .slice none 0 0, .string (⟨#[]⟩ : ByteArray)]) ?_ 0 _ rfl; (with_reducible repeat (first | refine zg ?_ _ | refine zi ?_ | refine zh ?_ _)); exact BK239.out) Tryd.underlying24 rfl (by kernel_rfl)) rfl ?_
      exact ⟨_, by first | rfl | (simp [yl, ym] <;> rfl) | (simp [*, yl, ym] <;> rfl), by (with_reducible repeat (first | apply zC | apply zB | apply zD)); exact Kd.R_mono (Kd.R_far (p := ⟨gb239, 5, none⟩) (Kd.R_far (p := ⟨gb239, 4, none⟩) (Kd.R_far (p := ⟨gb239, 3, none⟩) (Kd.R_far (p := ⟨gb239, 2, none⟩) (Kd.R_far (p := ⟨gb239, 1, none⟩) (Kd.R_far (p := ⟨gb239, 0, none⟩) (Kd.R_types HO248.out BK239.out (by decide)) (fun _ hk => hk.2) (.string t242)) (fun _ hk => hk.2) (.string t243)) (fun _ hk => hk.2) (.string t244)) (fun _ hk => hk.2) (.string t245)) (fun _ hk => hk.2) (.slice Ao83 t246.length co83)) (fun _ hk => hk.2) (.string t249)) (fun _ hk => trivial), by repeat (with_reducible first | exact HB.out | apply zd | apply zb | apply zc | refine zf ?_ GE238.out | refine zf ?_ GE239.out | refine zf ?_ GE241.out)⟩
     ·replace c74 := Bool.eq_false_iff.mpr c74
      subst c74
      have H1 : (if x242004_1.length < 4398046511104 then ((r2_Canonical.f k1 a0_0 a0_1 a0_2 a0_3 (x242004_1 ++ [(⟨a1, a2⟩ : S64)]) a0_5).bind fun bt254 => (some (bt254.1, bt254.2.1, bt254.2.2.1, bt254.2.2.2.1, bt254.2.2.2.2.1, bt254.2.2.2.2.2.1, bt254.2.2.2.2.2.2))) else (none)) = some (r1, r2, r3, r4, r5, r6, r7) := by rw [if_neg (show ¬ (false = true) by decide)] at H; exact H
      clear H
      have H := H1
      clear H1
      by_cases c84 : x242004_1.length < 4398046511104
      ·rw [if_pos c84] at H
       have LMc84 := Aq.mk c84
       clear c84
       obtain ⟨y251, hy251⟩ : ∃ y_ : List (S64), y_ = (x242004_1 ++ [(⟨a1, a2⟩ : S64)]) := ⟨_, rfl⟩
       replace H : ((r2_Canonical.f k1 a0_0 a0_1 a0_2 a0_3 y251 a0_5).bind fun bt254 => (some (bt254.1, bt254.2.1, bt254.2.2.1, bt254.2.2.2.1, bt254.2.2.2.2.1, bt254.2.2.2.2.2.1, bt254.2.2.2.2.2.2))) = some (r1, r2, r3, r4, r5, r6, r7) := by first | (rw [hy251]; with_reducible exact H) | (have H2_ := (Option.bind_some _ _).symm.trans H; rw [hy251]; with_reducible exact H2_) | (have H2_ := (Option.bind_some _ _).symm.trans H; with_reducible exact H2_) | with_reducible exact H | (rw [hy251]; exact H) | exact H
       have Ny251 := Aq.mk hy251
       clear hy251
       replace H := zu.mp H
       obtain ⟨⟨t254, t255, t256, t257, t258, t261, t262⟩, A850, H⟩ := H
       replace H : (some (t254, t255, t256, t257, t258, t261, t262)) = some (r1, r2, r3, r4, r5, r6, r7) := H
       have A85 := Aq.mk A850
       clear A850
       simp only [zH, zI] at H
       obtain ⟨rfl, rfl, rfl, rfl, rfl, rfl, rfl⟩ := H
       have hnb86 := NB241_238.out
       have hnc86 := NB238_241.out
       have hnb87 := NB241_239.out
       have hnc87 := NB239_241.out
       have hcz88_0 : wr.cell? ⟨gb241, 0, none⟩ = some (.string a0_0) := (ze BK241.out 0).trans rfl
       have hcz88_1 : wr.cell? ⟨gb241, 1, none⟩ = some (.string a0_1) := (ze BK241.out 1).trans rfl
       have hcz88_2 : wr.cell? ⟨gb241, 2, none⟩ = some (.string a0_2) := (ze BK241.out 2).trans rfl
       have hcz88_3 : wr.cell? ⟨gb241, 3, none⟩ = some (.string a0_3) := (ze BK241.out 3).trans rfl
       have hcz88_4 : wr.cell? ⟨gb241, 4, none⟩ = some (u242004) := (ze BK241.out 4).trans rfl
       have hcz88_5 : wr.cell? ⟨gb241, 5, none⟩ = some (.string a0_5) := (ze BK241.out 5).trans rfl
       have hfz88_0 := za BK241.out 0
       have hfz88_1 := za BK241.out 1
       have hfz88_2 := za BK241.out 2
       have hfz88_3 := za BK241.out 3
       have hfz88_4 := za BK241.out 4
       have hfz88_5 := za BK241.out 5
       go_wp2_with (first | ((with_reducible refine gate_builtin (b := .append) (xs := #[.tmp 60, .tmp 64]) rfl ?_); at_builtin; refine Kd.R_append k64 (w0 := w) w.heap.size rfl (.tmp 60) (.tmp 64) 22 64 (.agg #[(.string ⟨#[]⟩), (.string ⟨#[]⟩)]) 32 rfl Tryd.underlying22 info64 rfl (by decide) (by omega) u242004 x242004_1 (⟨a1, a2⟩ : S64) [.string a1, .string a2] (fun _ => True) (fun _ => False) rfl rfl ?aP (fun _ hk => hk.elim) ?aF ?aO ?aB ?aS ?aL ?_; (case aP => exact k64_mkM _ _ _ (⟨a1, a2⟩ : S64)); (case aB => exact (by repeat (with_reducible first | exact HB.out | apply zd | apply zb | apply zc | refine zf ?_ GE238.out | refine zf ?_ GE239.out | refine zf ?_ GE241.out))); (case aF => exact (fun _ _ => trivial)); (case aO => exact (by (with_reducible repeat (first | apply zC | apply zB | apply zD)); exact HO_242004.out)); (case aS => exact (zz (by repeat (with_reducible first | exact HB.out | apply zd | apply zb | apply zc | refine zf ?_ GE238.out | refine zf ?_ GE239.out | refine zf ?_ GE241.out)))); (case aL => have := LMc84.out; omega); intro v252 w89 ho hb hg hat; rw [← Ny251.out] at ho; have n0_ := Aq.mk (yk (g := gb238) (o := .cells #[.string a0_0, .string a0_1, .string a0_2, .string a0_3, .slice A0_4 l0_4.length c0_4, .string a0_5] 24 (0, 0)) (by (with_reducible repeat (first | refine zg ?_ _ | refine zi ?_ | refine zh ?_ _)); exact BK238.out) hg (Kd.R_ne HO_242004.out BK238.out (by decide))); have n1_ := Aq.mk (yk (g := gb239) (o := .cells #[.string (⟨#[]⟩ : ByteArray), .string (⟨#[]⟩ : ByteArray), .string (⟨#[]⟩ : ByteArray), .string (⟨#[]⟩ : ByteArray), .slice none 0 0, .string (⟨#[]⟩ : ByteArray)] 24 (0, 0)) (by (with_reducible repeat (first | refine zg ?_ _ | refine zi ?_ | refine zh ?_ _)); exact BK239.out) hg (Kd.R_ne HO_242004.out BK239.out (by decide))); have n2_ := Aq.mk (yk (g := gb241) (o := .cells #[.string a0_0, .string a0_1, .string a0_2, .string a0_3, u242004, .string a0_5] 24 (0, 0)) (by (with_reducible repeat (first | refine zg ?_ _ | refine zi ?_ | refine zh ?_ _)); exact BK241.out) hg (Kd.R_ne HO_242004.out BK241.out (by decide))); have n3_ := Aq.mk (hb); have n4_ := Aq.mk (ho); clear BK238; clear BK239; clear BK241; clear HB; clear HO_242004; have BK238 := n0_; have BK239 := n1_; have BK241 := n2_; have HB := n3_; have HO253 := n4_; clear n0_ n1_ n2_ n3_ n4_; clear ho hb hg hat; obtain ⟨Ao90, co90, eo90⟩ := yi HO253.out; subst eo90; have hcz91_0 : w89.cell? ⟨gb241, 0, none⟩ = some (.string a0_0) := (ze BK241.out 0).trans rfl; have hcz91_1 : w89.cell? ⟨gb241, 1, none⟩ = some (.string a0_1) := (ze BK241.out 1).trans rfl; have hcz91_2 : w89.cell? ⟨gb241, 2, none⟩ = some (.string a0_2) := (ze BK241.out 2).trans rfl; have hcz91_3 : w89.cell? ⟨gb241, 3, none⟩ = some (.string a0_3) := (ze BK241.out 3).trans rfl; have hcz91_4 : w89.cell? ⟨gb241, 4, none⟩ = some (u242004) := (ze BK241.out 4).trans rfl; have hcz91_5 : w89.cell? ⟨gb241, 5, none⟩ = some (.string a0_5) := (ze BK241.out 5).trans rfl; have hfz91_0 := za BK241.out 0; have hfz91_1 := za BK241.out 1; have hfz91_2 := za BK241.out 2; have hfz91_3 := za BK241.out 3; have hfz91_4 := za BK241.out 4; have hfz91_5 := za BK241.out 5) | ((with_reducible refine gate_callee (f := 15) rfl ?_); refine goesL_ (some 68) rfl rfl Tryd.func15 (by kernel_rfl) rfl #[.agg #[.string a0_0, .string a0_1, .string a0_2, .string a0_3, .slice Ao90 y251.length co90, .string a0_5]] rfl (by (try simp only [zP, zQ, zR]); first | done | rfl | (simp only [zS, zT]; rfl)) ?_; (with_reducible refine (r2_Canonical.calls k1 a0_0 a0_1 a0_2 a0_3 _ _ y251 a0_5 t254 t255 t256 t257 t258 t261 t262 _ ?side1 ?side2 A85.out).mono ?_); (case side1 => refine (Kd.R_reads' (e := 64) (base := w.heap.size) (ok := fun k_ => True) (n := y251.length) (c := co90) ?_).2.2; exact (by (with_reducible repeat (first | apply zC | apply zB | apply zD)); exact (Kd.R_mono (Kd.R_far (p := ⟨gb241, 4, none⟩) (Kd.R_types HO253.out BK241.out (by decide)) (fun _ hk => hk.2) (.slice Ao90 y251.length co90)) (fun _ h_ => h_.1)))); (case side2 => exact (Kd.R_reads' HO253.out).2.1); rintro e w92 ⟨v259, rfl, ho0, hb⟩; refine ⟨_, rfl, ?_⟩; have n0_ := Aq.mk (Kd.R_elder' (by (with_reducible repeat (first | apply zC | apply zB | apply zD)); exact (Kd.R_mono (Kd.R_far (p := ⟨gb241, 4, none⟩) (Kd.R_types HO253.out BK241.out (by decide)) (fun _ hk => hk.2) (.slice Ao90 y251.length co90)) (fun _ h_ => h_.1))) (Kd.R_base ho0) hb); have n1_ := Aq.mk (zX (Kd.R_new' ho0 (Kd.R_lt (by (with_reducible repeat (first | apply zC | apply zB | apply zD)); exact (Kd.R_mono (Kd.R_far (p := ⟨gb241, 4, none⟩) (Kd.R_types HO253.out BK241.out (by decide)) (fun _ hk => hk.2) (.slice Ao90 y251.length co90)) (fun _ h_ => h_.1))))) (zz (by repeat (with_reducible first | exact HB.out | apply zd | apply zb | apply zc | refine zf ?_ GE238.out | refine zf ?_ GE239.out | refine zf ?_ GE241.out)))); have n2_ := Aq.mk (zw (g := gb238) (o := .cells #[.string a0_0, .string a0_1, .string a0_2, .string a0_3, .slice A0_4 l0_4.length c0_4, .string a0_5] 24 (0, 0)) (by (with_reducible repeat (first | refine zg ?_ _ | refine zi ?_ | refine zh ?_ _)); refine zx ?_ NB238_241.out _; (with_reducible repeat (first | refine zg ?_ _ | refine zi ?_ | refine zh ?_ _)); exact BK238.out) hb); have n3_ := Aq.mk (zw (g := gb239) (o := .cells #[.string (⟨#[]⟩ : ByteArray), .string (⟨#[]⟩ : ByteArray), .string (⟨#[]⟩ : ByteArray), .string (⟨#[]⟩ : ByteArray), .slice none 0 0, .string (⟨#[]⟩ : ByteArray)] 24 (0, 0)) (by (with_reducible repeat (first | refine zg ?_ _ | refine zi ?_ | refine zh ?_ _)); refine zx ?_ NB239_241.out _; (with_reducible repeat (first | refine zg ?_ _ | refine zi ?_ | refine zh ?_ _)); exact BK239.out) hb); have n4_ := Aq.mk (zw (g := gb241) (o := .cells #[.string a0_0, .string a0_1, .string a0_2, .string a0_3, .slice Ao90 y251.length co90, .string a0_5] 24 (0, 0)) (by (with_reducible repeat (first | refine zg ?_ _ | refine zi ?_ | refine zh ?_ _)); refine zy (cs := #[.string a0_0, .string a0_1, .string a0_2, .string a0_3, u242004, .string a0_5]) ?_ 4 _ rfl; (with_reducible repeat (first | refine zg ?_ _ | refine zi ?_ | refine zh ?_ _)); exact BK241.out) hb); have n5_ := Aq.mk (zv (by repeat (with_reducible first | exact HB.out | apply zd | apply zb | apply zc | refine zf ?_ GE238.out | refine zf ?_ GE239.out | refine zf ?_ GE241.out)) hb); clear HO253; clear BK238; clear BK239; clear BK241; clear HB; have HO253 := n0_; have HO260 := n1_; have BK238 := n2_; have BK239 := n3_; have BK241 := n4_; have HB := n5_; clear n0_ n1_ n2_ n3_ n4_ n5_; (try clear hb); (try clear hb2); (try clear hk); (try clear hi); (try clear ho0); have hnb93 := NB239_238.out; have hnc93 := NB238_239.out; have hcz94_0 : w92.cell? ⟨gb239, 0, none⟩ = some (.string (⟨#[]⟩ : ByteArray)) := (ze BK239.out 0).trans rfl; have hcz94_1 : w92.cell? ⟨gb239, 1, none⟩ = some (.string (⟨#[]⟩ : ByteArray)) := (ze BK239.out 1).trans rfl; have hcz94_2 : w92.cell? ⟨gb239, 2, none⟩ = some (.string (⟨#[]⟩ : ByteArray)) := (ze BK239.out 2).trans rfl; have hcz94_3 : w92.cell? ⟨gb239, 3, none⟩ = some (.string (⟨#[]⟩ : ByteArray)) := (ze BK239.out 3).trans rfl; have hcz94_4 : w92.cell? ⟨gb239, 4, none⟩ = some (.slice none 0 0) := (ze BK239.out 4).trans rfl; have hcz94_5 : w92.cell? ⟨gb239, 5, none⟩ = some (.string (⟨#[]⟩ : ByteArray)) := (ze BK239.out 5).trans rfl; have hfz94_0 := za BK239.out 0; have hfz94_1 := za BK239.out 1; have hfz94_2 := za BK239.out 2; have hfz94_3 := za BK239.out 3; have hfz94_4 := za BK239.out 4; have hfz94_5 := za BK239.out 5; obtain ⟨Ao95, co95, eo95⟩ := yi HO260.out; subst eo95))
       refine bodyPost_ret (results_ct rfl _ _ gb239 24 #[.string t254, .string t255, .string t256, .string t257, .slice Ao95 t258.length co95, .string t261] (0, 0) _ rfl (by (with_reducible repeat (first | refine zg ?_ _ | refine zi ?_ | refine zh ?_ _)); refine zy (cs := #[.string t254, .string t255, .string t256, .string t257, .slice Ao95 t258.length co95, .string (⟨#[]⟩ : ByteArray)]) ?_ 5 _ rfl; (with_reducible repeat (first | refine zg ?_ _ | refine zi ?_ | refine zh ?_ _)); refine zy (cs := #[.string t254, .string t255, .string t256, .string t257, .slice none 0 0, .string (⟨#[]⟩ : ByteArray)]) ?_ 4 _ rfl; (with_reducible repeat (first | refine zg ?_ _ | refine zi ?_ | refine zh ?_ _)); refine zy (cs := #[.string t254, .string t255, .string t256, .string (⟨#[]⟩ : ByteArray), .slice none 0 0, .string (⟨#[]⟩ : ByteArray)]) ?_ 3 _ rfl; (with_reducible repeat (first | refine zg ?_ _ | refine zi ?_ | refine zh ?_ _)); refine zy (cs := #[.string t254, .string t255, .string (⟨#[]⟩ : ByteArray), .string (⟨#[]⟩ : ByteArray), .slice none 0 0, .string (⟨#[]⟩ : ByteArray)]) ?_ 2 _ rfl; (with_reducible repeat (first | refine zg ?_ _ | refine zi ?_ | refine zh ?_ _)); refine zy (cs := #[.string t254, .string (⟨#[]⟩ : ByteArray), .string (⟨#[]⟩ : ByteArray), .string (⟨#[]⟩ : ByteArray), .slice none 0 0, .string (⟨#[]⟩ : ByteArray)]) ?_ 1 _ rfl; (with_reducible repeat (first | refine zg ?_ _ | refine zi ?_ | refine zh ?_ _)); refine zy (cs := #[.string (⟨#[]⟩ : ByteArray), .string (⟨#[]⟩ : ByteArray), .string (⟨#[]⟩ : ByteArray), .string (⟨#[]⟩ : ByteArray), .slice none 0 0, .string (⟨#[]⟩ : ByteArray)]) ?_ 0 _ rfl; (with_reducible repeat (first | refine zg ?_ _ | refine zi ?_ | refine zh ?_ _)); exact BK239.out) Tryd.underlying24 rfl (by kernel_rfl)) rfl ?_
       exact ⟨_, by first | rfl | (simp [yl, ym] <;> rfl) | (simp [*, yl, ym] <;> rfl), by (with_reducible repeat (first | apply zC | apply zB | apply zD)); exact Kd.R_mono (Kd.R_far (p := ⟨gb239, 5, none⟩) (Kd.R_far (p := ⟨gb239, 4, none⟩) (Kd.R_far (p := ⟨gb239, 3, none⟩) (Kd.R_far (p := ⟨gb239, 2, none⟩) (Kd.R_far (p := ⟨gb239, 1, none⟩) (Kd.R_far (p := ⟨gb239, 0, none⟩) (Kd.R_types HO260.out BK239.out (by decide)) (fun _ hk => hk.2) (.string t254)) (fun _ hk => hk.2) (.string t255)) (fun _ hk => hk.2) (.string t256)) (fun _ hk => hk.2) (.string t257)) (fun _ hk => hk.2) (.slice Ao95 t258.length co95)) (fun _ hk => hk.2) (.string t261)) (fun _ hk => trivial), by repeat (with_reducible first | exact HB.out | apply zd | apply zb | apply zc | refine zf ?_ GE238.out | refine zf ?_ GE239.out | refine zf ?_ GE241.out)⟩
      ·rw [if_neg c84] at H
       exact absurd H (by simp)
 ·rw [if_neg c5] at H
  have c5b0 : (t240 == 0) = false := ye.mpr c5
  have c5b1 : (t240 != 0) = true := yd.mpr c5
  simp only [zH, zI] at H
  obtain ⟨rfl, rfl, rfl, rfl, rfl, rfl, rfl⟩ := H
  go_enter Tryd.func29, Tryd.ntmps29
  go_wp2_with (first | ((with_reducible refine gate_dst (N := 3) rfl ?_); refine box_event ?hg (N := 3) ?hd (cs := #[.string a0_0, .string a0_1, .string a0_2, .string a0_3, .slice A0_4 l0_4.length c0_4, .string a0_5]) (t := 24) ?hr ?_; (case hd => rfl); (case hg => rfl); (case hr => first | (go_simp; done) | (go_simp; rfl)); intro gb238 hg w96 hbox hb; have n0_ := Aq.mk (zv (by repeat (with_reducible first | exact HB.out | apply zd | apply zb | apply zc)) hb); have n1_ := Aq.mk (hbox); have n2_ := Aq.mk ((by rw [hg]; exact (zz (by repeat (with_reducible first | exact HB.out | apply zd | apply zb | apply zc))) : w.heap.size ≤ gb238)); have n3_ := Aq.mk ((by rw [hg]; exact (zz (by repeat (with_reducible first | exact HB.out | apply zd | apply zb | apply zc))) : w.heap.size ≤ gb238)); clear HB; have HB := n0_; have BK238 := n1_; have GW238 := n2_; have GE238 := n3_; clear n0_ n1_ n2_ n3_; clear hb hbox hg) | ((with_reducible refine gate_dst (N := 6) rfl ?_); refine box_event ?hg (N := 6) ?hd (cs := #[.string (⟨#[]⟩ : ByteArray), .string (⟨#[]⟩ : ByteArray), .string (⟨#[]⟩ : ByteArray), .string (⟨#[]⟩ : ByteArray), .slice none 0 0, .string (⟨#[]⟩ : ByteArray)]) (t := 24) ?hr ?_; (case hd => rfl); (case hg => rfl); (case hr => first | (go_simp; done) | (go_simp; rfl)); intro gb239 hg w97 hbox hb; have n0_ := Aq.mk (zw (g := gb238) (o := .cells #[.string a0_0, .string a0_1, .string a0_2, .string a0_3, .slice A0_4 l0_4.length c0_4, .string a0_5] 24 (0, 0)) (by (with_reducible repeat (first | refine zg ?_ _ | refine zi ?_ | refine zh ?_ _)); exact BK238.out) hb); have n1_ := Aq.mk (zv (by repeat (with_reducible first | exact HB.out | apply zd | apply zb | apply zc | refine zf ?_ GE238.out)) hb); have n2_ := Aq.mk (hbox); have n3_ := Aq.mk ((by rw [hg]; exact (zz (by repeat (with_reducible first | exact HB.out | apply zd | apply zb | apply zc | refine zf ?_ GE238.out))) : w.heap.size ≤ gb239)); have n4_ := Aq.mk ((by rw [hg]; exact (zz (by repeat (with_reducible first | exact HB.out | apply zd | apply zb | apply zc | refine zf ?_ GE238.out))) : w.heap.size ≤ gb239)); have n5_ := Aq.mk ((by rw [hg]; exact Nat.ne_of_lt (zA (g := gb238) (o := .cells #[.string a0_0, .string a0_1, .string a0_2, .string a0_3, .slice A0_4 l0_4.length c0_4, .string a0_5] 24 (0, 0)) (by (with_reducible repeat (first | refine zg ?_ _ | refine zi ?_ | refine zh ?_ _)); exact BK238.out)) : gb238 ≠ gb239)); have n6_ := Aq.mk ((by rw [hg]; exact Nat.ne_of_gt (zA (g := gb238) (o := .cells #[.string a0_0, .string a0_1, .string a0_2, .string a0_3, .slice A0_4 l0_4.length c0_4, .string a0_5] 24 (0, 0)) (by (with_reducible repeat (first | refine zg ?_ _ | refine zi ?_ | refine zh ?_ _)); exact BK238.out)) : gb239 ≠ gb238)); clear BK238; clear HB; have BK238 := n0_; have HB := n1_; have BK239 := n2_; have GW239 := n3_; have GE239 := n4_; have NB238_239 := n5_; have NB239_238 := n6_; clear n0_ n1_ n2_ n3_ n4_ n5_ n6_; clear hb hbox hg; have hnb98 := NB238_239.out; have hnc98 := NB239_238.out; have hcz99_0 : w97.cell? ⟨gb238, 0, none⟩ = some (.string a0_0) := (ze BK238.out 0).trans rfl; have hcz99_1 : w97.cell? ⟨gb238, 1, none⟩ = some (.string a0_1) := (ze BK238.out 1).trans rfl; have hcz99_2 : w97.cell? ⟨gb238, 2, none⟩ = some (.string a0_2) := (ze BK238.out 2).trans rfl; have hcz99_3 : w97.cell? ⟨gb238, 3, none⟩ = some (.string a0_3) := (ze BK238.out 3).trans rfl; have hcz99_4 : w97.cell? ⟨gb238, 4, none⟩ = some (.slice A0_4 l0_4.length c0_4) := (ze BK238.out 4).trans rfl; have hcz99_5 : w97.cell? ⟨gb238, 5, none⟩ = some (.string a0_5) := (ze BK238.out 5).trans rfl; have hfz99_0 := za BK238.out 0; have hfz99_1 := za BK238.out 1; have hfz99_2 := za BK238.out 2; have hfz99_3 := za BK238.out 3; have hfz99_4 := za BK238.out 4; have hfz99_5 := za BK238.out 5) | ((with_reducible refine gate_callee (f := 25) rfl ?_); refine goesL_ (some 14) rfl rfl Tryd.func25 (by kernel_rfl) rfl #[.agg #[.string a0_0, .string a0_1, .string a0_2, .string a0_3, .slice A0_4 l0_4.length c0_4, .string a0_5]] rfl (by (try simp only [zP, zQ, zR]); first | done | rfl | (simp only [zS, zT]; rfl)) ?_; (with_reducible refine (r2_Check.calls k a0_0 a0_1 a0_2 a0_3 _ _ l0_4 a0_5 t240 _ ?side1 ?side2 A4.out).mono ?_); (case side1 => repeat (first | exact (Kd.C_below HR0_4.out HB.out) | (with_reducible refine zF ?_ _) | (with_reducible refine zE ?_ _) | (with_reducible refine zG ?_))); (case side2 => exact HC0_4.out); rintro e w100 ⟨rfl, hb⟩; refine ⟨_, rfl, ?_⟩; have n0_ := Aq.mk (zw (g := gb238) (o := .cells #[.string a0_0, .string a0_1, .string a0_2, .string a0_3, .slice A0_4 l0_4.length c0_4, .string a0_5] 24 (0, 0)) (by (with_reducible repeat (first | refine zg ?_ _ | refine zi ?_ | refine zh ?_ _)); exact BK238.out) hb); have n1_ := Aq.mk (zw (g := gb239) (o := .cells #[.string (⟨#[]⟩ : ByteArray), .string (⟨#[]⟩ : ByteArray), .string (⟨#[]⟩ : ByteArray), .string (⟨#[]⟩ : ByteArray), .slice none 0 0, .string (⟨#[]⟩ : ByteArray)] 24 (0, 0)) (by (with_reducible repeat (first | refine zg ?_ _ | refine zi ?_ | refine zh ?_ _)); exact BK239.out) hb); have n2_ := Aq.mk (zv (by repeat (with_reducible first | exact HB.out | apply zd | apply zb | apply zc | refine zf ?_ GE238.out | refine zf ?_ GE239.out)) hb); clear BK238; clear BK239; clear HB; have BK238 := n0_; have BK239 := n1_; have HB := n2_; clear n0_ n1_ n2_; (try clear hb); (try clear hb2); (try clear hk); (try clear hi); have hcz101_0 : w100.cell? ⟨gb239, 0, none⟩ = some (.string (⟨#[]⟩ : ByteArray)) := (ze BK239.out 0).trans rfl; have hcz101_1 : w100.cell? ⟨gb239, 1, none⟩ = some (.string (⟨#[]⟩ : ByteArray)) := (ze BK239.out 1).trans rfl; have hcz101_2 : w100.cell? ⟨gb239, 2, none⟩ = some (.string (⟨#[]⟩ : ByteArray)) := (ze BK239.out 2).trans rfl; have hcz101_3 : w100.cell? ⟨gb239, 3, none⟩ = some (.string (⟨#[]⟩ : ByteArray)) := (ze BK239.out 3).trans rfl; have hcz101_4 : w100.cell? ⟨gb239, 4, none⟩ = some (.slice none 0 0) := (ze BK239.out 4).trans rfl; have hcz101_5 : w100.cell? ⟨gb239, 5, none⟩ = some (.string (⟨#[]⟩ : ByteArray)) := (ze BK239.out 5).trans rfl; have hfz101_0 := za BK239.out 0; have hfz101_1 := za BK239.out 1; have hfz101_2 := za BK239.out 2; have hfz101_3 := za BK239.out 3; have hfz101_4 := za BK239.out 4; have hfz101_5 := za BK239.out 5))
  refine bodyPost_ret (results_ct rfl _ _ gb239 24 #[.string (⟨#[]⟩ : ByteArray), .string (⟨#[]⟩ : ByteArray), .string (⟨#[]⟩ : ByteArray), .string (⟨#[]⟩ : ByteArray), .slice none 0 0, .string (⟨#[]⟩ : ByteArray)] (0, 0) _ rfl (by (with_reducible repeat (first | refine zg ?_ _ | refine zi ?_ | refine zh ?_ _)); refine zy (cs := #[.string (⟨#[]⟩ : ByteArray), .string (⟨#[]⟩ : ByteArray), .string (⟨#[]⟩ : ByteArray), .string (⟨#[]⟩ : ByteArray), .slice none 0 0, .string (⟨#[]⟩ : ByteArray)]) ?_ 5 _ rfl; (with_reducible repeat (first | refine zg ?_ _ | refine zi ?_ | refine zh ?_ _)); refine zy (cs := #[.string (⟨#[]⟩ : ByteArray), .string (⟨#[]⟩ : ByteArray), .string (⟨#[]⟩ : ByteArray), .string (⟨#[]⟩ : ByteArray), .slice none 0 0, .string (⟨#[]⟩ : ByteArray)]) ?_ 4 _ rfl; (with_reducible repeat (first | refine zg ?_ _ | refine zi ?_ | refine zh ?_ _)); refine zy (cs := #[.string (⟨#[]⟩ : ByteArray), .string (⟨#[]⟩ : ByteArray), .string (⟨#[]⟩ : ByteArray), .string (⟨#[]⟩ : ByteArray), .slice none 0 0, .string (⟨#[]⟩ : ByteArray)]) ?_ 3 _ rfl; (with_reducible repeat (first | refine zg ?_ _ | refine zi ?_ | refine zh ?_ _)); refine zy (cs := #[.string (⟨#[]⟩ : ByteArray), .string (⟨#[]⟩ : ByteArray), .string (⟨#[]⟩ : ByteArray), .string (⟨#[]⟩ : ByteArray), .slice none 0 0, .string (⟨#[]⟩ : ByteArray)]) ?_ 2 _ rfl; (with_reducible repeat (first | refine zg ?_ _ | refine zi ?_ | refine zh ?_ _)); refine zy (cs := #[.string (⟨#[]⟩ : ByteArray), .string (⟨#[]⟩ : ByteArray), .string (⟨#[]⟩ : ByteArray), .string (⟨#[]⟩ : ByteArray), .slice none 0 0, .string (⟨#[]⟩ : ByteArray)]) ?_ 1 _ rfl; (with_reducible repeat (first | refine zg ?_ _ | refine zi ?_ | refine zh ?_ _)); refine zy (cs := #[.string (⟨#[]⟩ : ByteArray), .string (⟨#[]⟩ : ByteArray), .string (⟨#[]⟩ : ByteArray), .string (⟨#[]⟩ : ByteArray), .slice none 0 0, .string (⟨#[]⟩ : ByteArray)]) ?_ 0 _ rfl; (with_reducible repeat (first | refine zg ?_ _ | refine zi ?_ | refine zh ?_ _)); exact BK239.out) Tryd.underlying24 rfl (by kernel_rfl)) rfl ?_
  exact ⟨_, by first | rfl | (simp [yl, ym] <;> rfl) | (simp [*, yl, ym] <;> rfl), by first | exact Kd.R_nil _ _ _ _ _ | exact Kd.N_nil _ _ _ _ _ | exact Kd.V_nil _ _ _ _ _ | exact Kd.Q_nil _ _ _ _ _ | exact Kd.S_nil _ _ _ _ _, by repeat (with_reducible first | exact HB.out | apply zd | apply zb | apply zc | refine zf ?_ GE238.out | refine zf ?_ GE239.out)⟩
end Go.Proofs.YtmnfjbmhlabdaaaDoor.Pr
