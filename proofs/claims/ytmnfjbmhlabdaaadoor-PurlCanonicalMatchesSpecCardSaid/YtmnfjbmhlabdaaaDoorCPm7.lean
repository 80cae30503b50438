-- Printed by wip/pr.py.
import Derived.Test.YtmnfjbmhlabdaaaDoorCXa
import Derived.Test.YtmnfjbmhlabdaaaDoorCEn
import Derived.Test.YtmnfjbmhlabdaaaDoorCEp
import Derived.Test.YtmnfjbmhlabdaaaDoorCEu
import Derived.Test.YtmnfjbmhlabdaaaDoorCPrx0
import Derived.Test.YtmnfjbmhlabdaaaDoorCPrx3
namespace Go.Proofs.YtmnfjbmhlabdaaaDoor.Pr
open RowKit YtmnfjbmhlabdaaaDoorW.PrintWords YtmnfjbmhlabdaaaDoorW.PrintLast YtmnfjbmhlabdaaaDoorW.PrintMore
attribute [local go_sem] max2_int min2_int max_two min_two max_three min_three max_four min_four
set_option linter.unusedVariables false
set_option linter.unusedSimpArgs false
def r2_Canonical.f (k : Nat) (a0_0 : ByteArray) (a0_1 : ByteArray) (a0_2 : ByteArray) (a0_3 : ByteArray) (l0_4 : List (S64)) (a0_5 : ByteArray) : Option (ByteArray × ByteArray × ByteArray × ByteArray × (List (S64)) × ByteArray × Int) := (r2_Check.f k a0_0 a0_1 a0_2 a0_3 l0_4 a0_5).bind fun t194 => (if t194 = 0 then ((r2_canonical.f k a0_0 a0_1 a0_2 a0_3 l0_4 a0_5).bind fun bt195 => (some (bt195.1, bt195.2.1, bt195.2.2.1, bt195.2.2.2.1, bt195.2.2.2.2.1, bt195.2.2.2.2.2, 0))) else (some ((⟨#[]⟩ : ByteArray), (⟨#[]⟩ : ByteArray), (⟨#[]⟩ : ByteArray), (⟨#[]⟩ : ByteArray), ([] : List (S64)), (⟨#[]⟩ : ByteArray), t194)))
set_option maxHeartbeats 8000000 in
set_option maxRecDepth 100000 in
theorem r2_Canonical.calls (k : Nat) (a0_0 : ByteArray) (a0_1 : ByteArray) (a0_2 : ByteArray) (a0_3 : ByteArray) (A0_4 : Option Addr) (c0_4 : Nat) (l0_4 : List (S64)) (a0_5 : ByteArray) (r1 : ByteArray) (r2 : ByteArray) (r3 : ByteArray) (r4 : ByteArray) (r5 : List (S64)) (r6 : ByteArray) (r7 : Int) (w : World) (hr0_4 : Kd.C k64 w A0_4 l0_4.length l0_4) (hc0_4 : l0_4.length ≤ c0_4) (h : r2_Canonical.f k a0_0 a0_1 a0_2 a0_3 l0_4 a0_5 = some (r1, r2, r3, r4, r5, r6, r7)) :
  Calls Tryd.prog 15 #[.agg #[.string a0_0, .string a0_1, .string a0_2, .string a0_3, .slice A0_4 l0_4.length c0_4, .string a0_5]] w fun e w' => ∃ v4_ : Value, e = .returned (.tuple #[.agg #[.string r1, .string r2, .string r3, .string r4, v4_, .string r6], .int .i64 r7]) ∧ Kd.R k64 64 w' w.heap.size (fun _ => True) v4_ r5 ∧ Below w.heap.size w w' := by
 have hu24 := Tryd.underlying24
 have HR0_4 := Aq.mk hr0_4
 have HC0_4 := Aq.mk hc0_4
 clear hr0_4 hc0_4
 have HB := Aq.mk (Below.refl w.heap.size w)
 have H : ((r2_Check.f k a0_0 a0_1 a0_2 a0_3 l0_4 a0_5).bind fun t194 => (if t194 = 0 then ((r2_canonical.f k a0_0 a0_1 a0_2 a0_3 l0_4 a0_5).bind fun bt195 => (some (bt195.1, bt195.2.1, bt195.2.2.1, bt195.2.2.2.1, bt195.2.2.2.2.1, bt195.2.2.2.2.2, 0))) else (some ((⟨#[]⟩ : ByteArray), (⟨#[]⟩ : ByteArray), (⟨#[]⟩ : ByteArray), (⟨#[]⟩ : ByteArray), ([] : List (S64)), (⟨#[]⟩ : ByteArray), t194)))) = some (r1, r2, r3, r4, r5, r6, r7) := h
 clear h
 replace H := zu.mp H
 obtain ⟨t194, A20, H⟩ := H
 replace H : (if t194 = 0 then ((r2_canonical.f k a0_0 a0_1 a0_2 a0_3 l0_4 a0_5).bind fun bt195 => (some (bt195.1, bt195.2.1, bt195.2.2.1, bt195.2.2.2.1, bt195.2.2.2.2.1, bt195.2.2.2.2.2, 0))) else (some ((⟨#[]⟩ : ByteArray), (⟨#[]⟩ : ByteArray), (⟨#[]⟩ : ByteArray), (⟨#[]⟩ : ByteArray), ([] : List (S64)), (⟨#[]⟩ : ByteArray), t194))) = some (r1, r2, r3, r4, r5, r6, r7) := H
 have A2 := Aq.mk A20
 clear A20
 by_cases c3 : t194 = 0
 ·rw [if_pos c3] at H
  have c3b0 : (t194 == 0) = true := yc.mpr c3
  have c3b1 : (t194 != 0) = false := yf.mpr c3
  clear c3
  replace H := zu.mp H
  obtain ⟨⟨t195, t196, t197, t198, t199, t202⟩, A40, H⟩ := H
  replace H : (some (t195, t196, t197, t198, t199, t202, 0)) = some (r1, r2, r3, r4, r5, r6, r7) := H
  have A4 := Aq.mk A40
  clear A40
  simp only [zH, zI] at H
  obtain ⟨rfl, rfl, rfl, rfl, rfl, rfl, rfl⟩ := H
  go_enter Tryd.func15, Tryd.ntmps15
  go_wp2_with (first | ((with_reducible refine gate_dst (N := 1) rfl ?_); refine box_event ?hg (N := 1) ?hd (cs := #[.string a0_0, .string a0_1, .string a0_2, .string a0_3, .slice A0_4 l0_4.length c0_4, .string a0_5]) (t := 24) ?hr ?_; (case hd => rfl); (case hg => rfl); (case hr => first | (go_simp; done) | (go_simp; rfl)); intro gb192 hg w5 hbox hb; have n0_ := Aq.mk (zv (by repeat (with_reducible first | exact HB.out | apply zd | apply zb | apply zc)) hb); have n1_ := Aq.mk (hbox); have n2_ := Aq.mk ((by rw [hg]; exact (zz (by repeat (with_reducible first | exact HB.out | apply zd | apply zb | apply zc))) : w.heap.size ≤ gb192)); have n3_ := Aq.mk ((by rw [hg]; exact (zz (by repeat (with_reducible first | exact HB.out | apply zd | apply zb | apply zc))) : w.heap.size ≤ gb192)); clear HB; have HB := n0_; have BK192 := n1_; have GW192 := n2_; have GE192 := n3_; clear n0_ n1_ n2_ n3_; clear hb hbox hg) | ((with_reducible refine gate_dst (N := 2) rfl ?_); refine box_event ?hg (N := 2) ?hd (cs := #[.string (⟨#[]⟩ : ByteArray), .string (⟨#[]⟩ : ByteArray), .string (⟨#[]⟩ : ByteArray), .string (⟨#[]⟩ : ByteArray), .slice none 0 0, .string (⟨#[]⟩ : ByteArray)]) (t := 24) ?hr ?_; (case hd => rfl); (case hg => rfl); (case hr => first | (go_simp; done) | (go_simp; rfl)); intro gb193 hg w6 hbox hb; have n0_ := Aq.mk (zw (g := gb192) (o := .cells #[.string a0_0, .string a0_1, .string a0_2, .string a0_3, .slice A0_4 l0_4.length c0_4, .string a0_5] 24 (0, 0)) (by (with_reducible repeat (first | refine zg ?_ _ | refine zi ?_ | refine zh ?_ _)); exact BK192.out) hb); have n1_ := Aq.mk (zv (by repeat (with_reducible first | exact HB.out | apply zd | apply zb | apply zc | refine zf ?_ GE192.out)) hb); have n2_ := Aq.mk (hbox); have n3_ := Aq.mk ((by rw [hg]; exact (zz (by repeat (with_reducible first | exact HB.out | apply zd | apply zb | apply zc | refine zf ?_ GE192.out))) : w.heap.size ≤ gb193)); have n4_ := Aq.mk ((by rw [hg]; exact (zz (by repeat (with_reducible first | exact HB.out | apply zd | apply zb | apply zc | refine zf ?_ GE192.out))) : w.heap.size ≤ gb193)); have n5_ := Aq.mk ((by rw [hg]; exact Nat.ne_of_lt (zA (g := gb192) (o := .cells #[.string a0_0, .string a0_1, .string a0_2, .string a0_3, .slice A0_4 l0_4.length c0_4, .string a0_5] 24 (0, 0)) (by (with_reducible repeat (first | refine zg ?_ _ | refine zi ?_ | refine zh ?_ _)); exact BK192.out)) : gb192 ≠ gb193)); have n6_ := Aq.mk ((by rw [hg]; exact Nat.ne_of_gt (zA (g := gb192) (o := .cells #[.string a0_0, .string a0_1, .string a0_2, .string a0_3, .slice A0_4 l0_4.length c0_4, .string a0_5] 24 (0, 0)) (by (with_reducible repeat (first | refine zg ?_ _ | refine zi ?_ | refine zh ?_ _)); exact BK192.out)) : gb193 ≠ gb192)); clear BK192; clear HB; have BK192 := n0_; have HB := n1_; have BK193 := n2_; have GW193 := n3_; have GE193 := n4_; have NB192_193 := n5_; have NB193_192 := n6_; clear n0_ n1_ n2_ n3_ n4_ n5_ n6_; clear hb hbox hg; have hnb7 := NB192_193.out; have hnc7 := NB193_192.out; have hcz8_0 : w6.cell? ⟨gb192, 0, none⟩ = some (.string a0_0) := (ze BK192.out 0).trans rfl; have hcz8_1 : w6.cell? ⟨gb192, 1, none⟩ = some (.string a0_1) := (ze BK192.out 1).trans rfl; have hcz8_2 : w6.cell? ⟨gb192, 2, none⟩ = some (.string a0_2) := (ze BK192.out 2).trans rfl; have hcz8_3 : w6.cell? ⟨gb192, 3, none⟩ = some (.string a0_3) := (ze BK192.out 3).trans rfl; have hcz8_4 : w6.cell? ⟨gb192, 4, none⟩ = some (.slice A0_4 l0_4.length c0_4) := (ze BK192.out 4).trans rfl; have hcz8_5 : w6.cell? ⟨gb192, 5, none⟩ = some (.string a0_5) := (ze BK192.out 5).trans rfl; have hfz8_0 := za BK192.out 0; have hfz8_1 := za BK192.out 1; have hfz8_2 := za BK192.out 2; have hfz8_3 := za BK192.out 3; have hfz8_4 := za BK192.out 4; have hfz8_5 := za BK192.out 5) | ((with_reducible refine gate_callee (f := 25) rfl ?_); refine goesL_ (some 6) rfl rfl Tryd.func25 (by kernel_rfl) rfl #[.agg #[.string a0_0, .string a0_1, .string a0_2, .string a0_3, .slice A0_4 l0_4.length c0_4, .string a0_5]] rfl (by (try simp only [zP, zQ, zR]); first | done | rfl | (simp only [zS, zT]; rfl)) ?_; (with_reducible refine (r2_Check.calls k a0_0 a0_1 a0_2 a0_3 _ _ l0_4 a0_5 t194 _ ?side1 ?side2 A2.out).mono ?_); (case side1 => repeat (first | exact (Kd.C_below HR0_4.out HB.out) | (with_reducible refine zF ?_ _) | (with_reducible refine zE ?_ _) | (with_reducible refine zG ?_))); (case side2 => exact HC0_4.out); rintro e w9 ⟨rfl, hb⟩; refine ⟨_, rfl, ?_⟩; have n0_ := Aq.mk (zw (g := gb192) (o := .cells #[.string a0_0, .string a0_1, .string a0_2, .string a0_3, .slice A0_4 l0_4.length c0_4, .string a0_5] 24 (0, 0)) (by (with_reducible repeat (first | refine zg ?_ _ | refine zi ?_ | refine zh ?_ _)); exact BK192.out) hb); have n1_ := Aq.mk (zw (g := gb193) (o := .cells #[.string (⟨#[]⟩ : ByteArray), .string (⟨#[]⟩ : ByteArray), .string (⟨#[]⟩ : ByteArray), .string (⟨#[]⟩ : ByteArray), .slice none 0 0, .string (⟨#[]⟩ : ByteArray)] 24 (0, 0)) (by (with_reducible repeat (first | refine zg ?_ _ | refine zi ?_ | refine zh ?_ _)); exact BK193.out) hb); have n2_ := Aq.mk (zv (by repeat (with_reducible first | exact HB.out | apply zd | apply zb | apply zc | refine zf ?_ GE192.out | refine zf ?_ GE193.out)) hb); clear BK192; clear BK193; clear HB; have BK192 := n0_; have BK193 := n1_; have HB := n2_; clear n0_ n1_ n2_; (try clear hb); (try clear hb2); (try clear hk); (try clear hi); have hcz10_0 : w9.cell? ⟨gb192, 0, none⟩ = some (.string a0_0) := (ze BK192.out 0).trans rfl; have hcz10_1 : w9.cell? ⟨gb192, 1, none⟩ = some (.string a0_1) := (ze BK192.out 1).trans rfl; have hcz10_2 : w9.cell? ⟨gb192, 2, none⟩ = some (.string a0_2) := (ze BK192.out 2).trans rfl; have hcz10_3 : w9.cell? ⟨gb192, 3, none⟩ = some (.string a0_3) := (ze BK192.out 3).trans rfl; have hcz10_4 : w9.cell? ⟨gb192, 4, none⟩ = some (.slice A0_4 l0_4.length c0_4) := (ze BK192.out 4).trans rfl; have hcz10_5 : w9.cell? ⟨gb192, 5, none⟩ = some (.string a0_5) := (ze BK192.out 5).trans rfl; have hfz10_0 := za BK192.out 0; have hfz10_1 := za BK192.out 1; have hfz10_2 := za BK192.out 2; have hfz10_3 := za BK192.out 3; have hfz10_4 := za BK192.out 4; have hfz10_5 := za BK192.out 5) | ((with_reducible refine gate_callee (f := 45) rfl ?_); refine goesL_ (some 12) rfl rfl Tryd.func45 (by kernel_rfl) rfl #[.agg #[.string a0_0, .string a0_1, .string a0_2, .string a0_3, .slice A0_4 l0_4.length c0_4, .string a0_5]] rfl (by (try simp only [zP, zQ, zR]); first | done | rfl | (simp only [zS, zT]; rfl)) ?_; (with_reducible refine (r2_canonical.calls k a0_0 a0_1 a0_2 a0_3 _ _ l0_4 a0_5 t195 t196 t197 t198 t199 t202 _ ?side1 ?side2 A4.out).mono ?_); (case side1 => repeat (first | exact (Kd.C_below HR0_4.out HB.out) | (with_reducible refine zF ?_ _) | (with_reducible refine zE ?_ _) | (with_reducible refine zG ?_))); (case side2 => exact HC0_4.out); rintro e w11 ⟨v200, rfl, ho0, hb⟩; refine ⟨_, rfl, ?_⟩; have n0_ := Aq.mk (zX ho0 (zz (by repeat (with_reducible first | exact HB.out | apply zd | apply zb | apply zc | refine zf ?_ GE192.out | refine zf ?_ GE193.out)))); have n1_ := Aq.mk (zw (g := gb192) (o := .cells #[.string a0_0, .string a0_1, .string a0_2, .string a0_3, .slice A0_4 l0_4.length c0_4, .string a0_5] 24 (0, 0)) (by (with_reducible repeat (first | refine zg ?_ _ | refine zi ?_ | refine zh ?_ _)); exact BK192.out) hb); have n2_ := Aq.mk (zw (g := gb193) (o := .cells #[.string (⟨#[]⟩ : ByteArray), .string (⟨#[]⟩ : ByteArray), .string (⟨#[]⟩ : ByteArray), .string (⟨#[]⟩ : ByteArray), .slice none 0 0, .string (⟨#[]⟩ : ByteArray)] 24 (0, 0)) (by (with_reducible repeat (first | refine zg ?_ _ | refine zi ?_ | refine zh ?_ _)); exact BK193.out) hb); have n3_ := Aq.mk (zv (by repeat (with_reducible first | exact HB.out | apply zd | apply zb | apply zc | refine zf ?_ GE192.out | refine zf ?_ GE193.out)) hb); clear BK192; clear BK193; clear HB; have HO201 := n0_; have BK192 := n1_; have BK193 := n2_; have HB := n3_; clear n0_ n1_ n2_ n3_; (try clear hb); (try clear hb2); (try clear hk); (try clear hi); (try clear ho0); have hcz12_0 : w11.cell? ⟨gb193, 0, none⟩ = some (.string (⟨#[]⟩ : ByteArray)) := (ze BK193.out 0).trans rfl; have hcz12_1 : w11.cell? ⟨gb193, 1, none⟩ = some (.string (⟨#[]⟩ : ByteArray)) := (ze BK193.out 1).trans rfl; have hcz12_2 : w11.cell? ⟨gb193, 2, none⟩ = some (.string (⟨#[]⟩ : ByteArray)) := (ze BK193.out 2).trans rfl; have hcz12_3 : w11.cell? ⟨gb193, 3, none⟩ = some (.string (⟨#[]⟩ : ByteArray)) := (ze BK193.out 3).trans rfl; have hcz12_4 : w11.cell? ⟨gb193, 4, none⟩ = some (.slice none 0 0) := (ze BK193.out 4).trans rfl; have hcz12_5 : w11.cell? ⟨gb193, 5, none⟩ = some (.string (⟨#[]⟩ : ByteArray)) := (ze BK193.out 5).trans rfl; have hfz12_0 := za BK193.out 0; have hfz12_1 := za BK193.out 1; have hfz12_2 := za BK193.out 2; have hfz12_3 := za BK193.out 3; have hfz12_4 := za BK193.out 4; have hfz12_5 := za BK193.out 5; obtain ⟨Ao13, co13, eo13⟩ := yi HO201.out; subst eo13))
  refine bodyPost_ret (results_ct rfl _ _ gb193 24 #[.string t195, .string t196, .string t197, .string t198, .slice Ao13 t199.length co13, .string t202] (0, 0) _ rfl (by (with_reducible repeat (first | refine zg ?_ _ | refine zi ?_ | refine zh ?_ _)); refine zy (cs := #[.string t195, .string t196, .string t197, .string t198, .slice Ao13 t199.length co13, .string (⟨#[]⟩ : ByteArray)]) ?_ 5 _ rfl; (with_reducible repeat (first | refine zg ?_ _ | refine zi ?_ | refine zh ?_ _)); refine zy (cs := #[.string t195, .string t196, .string t197, .string t198, .slice none 0 0, .string (⟨#[]⟩ : ByteArray)]) ?_ 4 _ rfl; (with_reducible repeat (first | refine zg ?_ _ | refine zi ?_ | refine zh ?_ _)); refine zy (cs := #[.string t195, .string t196, .string t197, .string (⟨#[]⟩ : ByteArray), .slice none 0 0, .string (⟨#[]⟩ : ByteArray)]) ?_ 3 _ rfl; (with_reducible repeat (first | refine zg ?_ _ | refine zi ?_ | refine zh ?_ _)); refine zy (cs := #[.string t195, .string t196, .string (⟨#[]⟩ : ByteArray), .string (⟨#[]⟩ : ByteArray), .slice none 0 0, .string (⟨#[]⟩ : ByteArray)]) ?_ 2 _ rfl; (with_reducible repeat (first | refine zg ?_ _ | refine zi ?_ | refine zh ?_ _)); refine zy (cs := #[.string t195, .string (⟨#[]⟩ : ByteArray), .string (⟨#[]⟩ : ByteArray), .string (⟨#[]⟩ : ByteArray), .slice none 0 0, .string (⟨#[]⟩ : ByteArray)]) ?_ 1 _ rfl; (with_reducible repeat (first | refine zg ?_ _ | refine zi ?_ | refine zh ?_ _)); refine zy (cs := #[.string (⟨#[]⟩ : ByteArray), .string (⟨#[]⟩ : ByteArray), .string (⟨#[]⟩ : ByteArray), .string (⟨#[]⟩ : ByteArray), .slice none 0 0, .string (⟨#[]⟩ : ByteArray)]) ?_ 0 _ rfl; (with_reducible repeat (first | refine zg ?_ _ | refine zi ?_ | refine zh ?_ _)); exact BK193.out) Tryd.underlying24 rfl (by kernel_rfl)) rfl ?_
  exact ⟨_, by first | rfl | (simp [yl, ym] <;> rfl) | (simp [*, yl, ym] <;> rfl), by (with_reducible repeat (first | apply zC | apply zB | apply zD)); exact Kd.R_mono (Kd.R_far (p := ⟨gb193, 5, none⟩) (Kd.R_far (p := ⟨gb193, 4, none⟩) (Kd.R_far (p := ⟨gb193, 3, none⟩) (Kd.R_far (p := ⟨gb193, 2, none⟩) (Kd.R_far (p := ⟨gb193, 1, none⟩) (Kd.R_far (p := ⟨gb193, 0, none⟩) (Kd.R_types HO201.out BK193.out (by decide)) (fun _ hk => hk.2) (.string t195)) (fun _ hk => hk.2) (.string t196)) (fun _ hk => hk.2) (.string t197)) (fun _ hk => hk.2) (.string t198)) (fun _ hk => hk.2) (.slice Ao13 t199.length co13)) (fun _ hk => hk.2) (.string t202)) (fun _ hk => trivial), by repeat (with_reducible first | exact HB.out | apply zd | apply zb | apply zc | refine zf ?_ GE192.out | refine zf ?_ GE193.out)⟩
 ·rw [if_neg c3] at H
  have c3b0 : (t194 == 0) = false := ye.mpr c3
  have c3b1 : (t194 != 0) = true := yd.mpr c3
  simp only [zH, zI] at H
  obtain ⟨rfl, rfl, rfl, rfl, rfl, rfl, rfl⟩ := H
  go_enter Tryd.func15, Tryd.ntmps15
  go_wp2_with (first | ((with_reducible refine gate_dst (N := 1) rfl ?_); refine box_event ?hg (N := 1) ?hd (cs := #[.string a0_0, .string a0_1, .string a0_2, .string a0_3, .slice A0_4 l0_4.length c0_4, .string a0_5]) (t := 24) ?hr ?_; (case hd => rfl); (case hg => rfl); (case hr => first | (go_simp; done) | (go_simp; rfl)); intro gb192 hg w14 hbox hb; have n0_ := Aq.mk (zv (by repeat (with_reducible first | exact HB.out | apply zd | apply zb | apply zc)) hb); have n1_ := Aq.mk (hbox); have n2_ := Aq.mk ((by rw [hg]; exact (zz (by repeat (with_reducible first | exact HB.out | apply zd | apply zb | apply zc))) : w.heap.size ≤ gb192)); have n3_ := Aq.mk ((by rw [hg]; exact (zz (by repeat (with_reducible first | exact HB.out | apply zd | apply zb | apply zc))) : w.heap.size ≤ gb192)); clear HB; have HB := n0_; have BK192 := n1_; have GW192 := n2_; have GE192 := n3_; clear n0_ n1_ n2_ n3_; clear hb hbox hg) | ((with_reducible refine gate_dst (N := 2) rfl ?_); refine box_event ?hg (N := 2) ?hd (cs := #[.string (⟨#[]⟩ : ByteArray), .string (⟨#[]⟩ : ByteArray), .string (⟨#[]⟩ : ByteArray), .string (⟨#[]⟩ : ByteArray), .slice none 0 0, .string (⟨#[]⟩ : ByteArray)]) (t := 24) ?hr ?_; (case hd => rfl); (case hg => rfl); (case hr => first | (go_simp; done) | (go_simp; rfl)); intro gb193 hg w15 hbox hb; have n0_ := Aq.mk (zw (g := gb192) (o := .cells #[.string a0_0, .string a0_1, .string a0_2, .string a0_3, .slice A0_4 l0_4.length c0_4, .string a0_5] 24 (0, 0)) (by (with_reducible repeat (first | refine zg ?_ _ | refine zi ?_ | refine zh ?_ _)); exact BK192.out) hb); have n1_ := Aq.mk (zv (by repeat (with_reducible first | exact HB.out | apply zd | apply zb | apply zc | refine zf ?_ GE192.out)) hb); have n2_ := Aq.mk (hbox); have n3_ := Aq.mk ((by rw [hg]; exact (zz (by repeat (with_reducible first | exact HB.out | apply zd | apply zb | apply zc | refine zf ?_ GE192.out))) : w.heap.size ≤ gb193)); have n4_ := Aq.mk ((by rw [hg]; exact (zz (by repeat (with_reducible first | exact HB.out | apply zd | apply zb | apply zc | refine zf ?_ GE192.out))) : w.heap.size ≤ gb193)); have n5_ := Aq.mk ((by rw [hg]; exact Nat.ne_of_lt (zA (g := gb192) (o := .cells #[.string a0_0, .string a0_1, .string a0_2, .string a0_3, .slice A0_4 l0_4.length c0_4, .string a0_5] 24 (0, 0)) (by (with_reducible repeat (first | refine zg ?_ _ | refine zi ?_ | refine zh ?_ _)); exact BK192.out)) : gb192 ≠ gb193)); have n6_ := Aq.mk ((by rw [hg]; exact Nat.ne_of_gt (zA (g := gb192) (o := .cells #[.string a0_0, .string a0_1, .string a0_2, .string a0_3, .slice A0_4 l0_4.length c0_4, .string a0_5] 24 (0, 0)) (by (with_reducible repeat (first | refine zg ?_ _ | refine zi ?_ | refine zh ?_ _)); exact BK192.out)) : gb193 ≠ gb192)); clear BK192; clear HB; have BK192 := n0_; have HB := n1_; have BK193 := n2_; have GW193 := n3_; have GE193 := n4_; have NB192_193 := n5_; have NB193_192 := n6_; clear n0_ n1_ n2_ n3_ n4_ n5_ n6_; clear hb hbox hg; have hnb16 := NB192_193.out; have hnc16 := NB193_192.out; have hcz17_0 : w15.cell? ⟨gb192, 0, none⟩ = some (.string a0_0) := (ze BK192.out 0).trans rfl; have hcz17_1 : w15.cell? ⟨gb192, 1, none⟩ = some (.string a0_1) := (ze BK192.out 1).trans rfl; have hcz17_2 : w15.cell? ⟨gb192, 2, none⟩ = some (.string a0_2) := (ze BK192.out 2).trans rfl; have hcz17_3 : w15.cell? ⟨gb192, 3, none⟩ = some (.string a0_3) := (ze BK192.out 3).trans rfl; have hcz17_4 : w15.cell? ⟨gb192, 4, none⟩ = some (.slice A0_4 l0_4.length c0_4) := (ze BK192.out 4).trans rfl; have hcz17_5 : w15.cell? ⟨gb192, 5, none⟩ = some (.string a0_5) := (ze BK192.out 5).trans rfl; have hfz17_0 := za BK192.out 0; have hfz17_1 := za BK192.out 1; have hfz17_2 := za BK192.out 2; have hfz17_3 := za BK192.out 3; have hfz17_4 := za BK192.out 4; have hfz17_5 := za BK192.out 5) | ((with_reducible refine gate_callee (f := 25) rfl ?_); refine goesL_ (some 6) rfl rfl Tryd.func25 (by kernel_rfl) rfl #[.agg #[.string a0_0, .string a0_1, .string a0_2, .string a0_3, .slice A0_4 l0_4.length c0_4, .string a0_5]] rfl (by (try simp only [zP, zQ, zR]); first | done | rfl | (simp only [zS, zT]; rfl)) ?_; (with_reducible refine (r2_Check.calls k a0_0 a0_1 a0_2 a0_3 _ _ l0_4 a0_5 t194 _ ?side1 ?side2 A2.out).mono ?_); (case side1 => repeat (first | exact (Kd.C_below HR0_4.out HB.out) | (with_reducible refine zF ?_ _) | (with_reducible refine zE ?_ _) | (with_reducible refine zG ?_))); (case side2 => exact HC0_4.out); rintro e w18 ⟨rfl, hb⟩; refine ⟨_, rfl, ?_⟩; have n0_ := Aq.mk (zw (g := gb192) (o := .cells #[.string a0_0, .string a0_1, .string a0_2, .string a0_3, .slice A0_4 l0_4.length c0_4, .string a0_5] 24 (0, 0)) (by (with_reducible repeat (first | refine zg ?_ _ | refine zi ?_ | refine zh ?_ _)); exact BK192.out) hb); have n1_ := Aq.mk (zw (g := gb193) (o := .cells #[.string (⟨#[]⟩ : ByteArray), .string (⟨#[]⟩ : ByteArray), .string (⟨#[]⟩ : ByteArray), .string (⟨#[]⟩ : ByteArray), .slice none 0 0, .string (⟨#[]⟩ : ByteArray)] 24 (0, 0)) (by (with_reducible repeat (first | refine zg ?_ _ | refine zi ?_ | refine zh ?_ _)); exact BK193.out) hb); have n2_ := Aq.mk (zv (by repeat (with_reducible first | exact HB.out | apply zd | apply zb | apply zc | refine zf ?_ GE192.out | refine zf ?_ GE193.out)) hb); clear BK192; clear BK193; clear HB; have BK192 := n0_; have BK193 := n1_; have HB := n2_; clear n0_ n1_ n2_; (try clear hb); (try clear hb2); (try clear hk); (try clear hi); have hcz19_0 : w18.cell? ⟨gb193, 0, none⟩ = some (.string (⟨#[]⟩ : ByteArray)) := (ze BK193.out 0).trans rfl; have hcz19_1 : w18.cell? ⟨gb193, 1, none⟩ = some (.string (⟨#[]⟩ : ByteArray)) := (ze BK193.out 1).trans rfl; have hcz19_2 : w18.cell? ⟨gb193, 2, none⟩ = some (.string (⟨#[]⟩ : ByteArray)) := (ze BK193.out 2).trans rfl; have hcz19_3 : w18.cell? ⟨gb193, 3, none⟩ = some (.string (⟨#[]⟩ : ByteArray)) := (ze BK193.out 3).trans rfl; have hcz19_4 : w18.cell? ⟨gb193, 4, none⟩ = some (.slice none 0 0) := (ze BK193.out 4).trans rfl; have hcz19_5 : w18.cell? ⟨gb193, 5, none⟩ = some (.string (⟨#[]⟩ : ByteArray)) := (ze BK193.out 5).trans rfl; have hfz19_0 := za BK193.out 0; have hfz19_1 := za BK193.out 1; have hfz19_2 := za BK193.out 2; have hfz19_3 := za BK193.out 3; have hfz19_4 := za BK193.out 4; have hfz19_5 := za BK193.out 5))
  refine bodyPost_ret (results_ct rfl _ _ gb193 24 #[.string (⟨#[]⟩ : ByteArray), .string (⟨#[]⟩ : ByteArray), .string (⟨#[]⟩ : ByteArray), .string (⟨#[]⟩ : ByteArray), .slice none 0 0, .string (⟨#[]⟩ : ByteArray)] (0, 0) _ rfl (by (with_reducible repeat (first | refine zg ?_ _ | refine zi ?_ | refine zh ?_ _)); refine zy (cs := #[.string (⟨#[]⟩ : ByteArray), .string (⟨#[]⟩ : ByteArray), .string (⟨#[]⟩ : ByteArray), .string (⟨#[]⟩ : ByteArray), .slice none 0 0, .string (⟨#[]⟩ : ByteArray)]) ?_ 5 _ rfl; (with_reducible repeat (first | refine zg ?_ _ | refine zi ?_ | refine zh ?_ _)); refine zy (cs := #[.string (⟨#[]⟩ : ByteArray), .string (⟨#[]⟩ : ByteArray), .string (⟨#[]⟩ : ByteArray), .string (⟨#[]⟩ : ByteArray), .slice none 0 0, .string (⟨#[]⟩ : ByteArray)]) ?_ 4 _ rfl; (with_reducible repeat (first | refine zg ?_ _ | refine zi ?_ | refine zh ?_ _)); refine zy (cs := #[.string (⟨#[]⟩ : ByteArray), .string (⟨#[]⟩ : ByteArray), .string (⟨#[]⟩ : ByteArray), .string (⟨#[]⟩ : ByteArray), .slice none 0 0, .string (⟨#[]⟩ : ByteArray)]) ?_ 3 _ rfl; (with_reducible repeat (first | refine zg ?_ _ | refine zi ?_ | refine zh ?_ _)); refine zy (cs := #[.string (⟨#[]⟩ : ByteArray), .string (⟨#[]⟩ : ByteArray), .string (⟨#[]⟩ : ByteArray), .string (⟨#[]⟩ : ByteArray), .slice none 0 0, .string (⟨#[]⟩ : ByteArray)]) ?_ 2 _ rfl; (with_reducible repeat (first | refine zg ?_ _ | refine zi ?_ | refine zh ?_ _)); refine zy (cs := #[.string (⟨#[]⟩ : ByteArray), .string (⟨#[]⟩ : ByteArray), .string (⟨#[]⟩ : ByteArray), .string (⟨#[]⟩ : ByteArray), .slice none 0 0, .string (⟨#[]⟩ : ByteArray)]) ?_ 1 _ rfl; (with_reducible repeat (first | refine zg ?_ _ | refine zi ?_ | refine zh ?_ _)); refine zy (cs := #[.string (⟨#[]⟩ : ByteArray), .string (⟨#[]⟩ : ByteArray), .string (⟨#[]⟩ : ByteArray), .string (⟨#[]⟩ : ByteArray), .slice none 0 0, .string (⟨#[]⟩ : ByteArray)]) ?_ 0 _ rfl; (with_reducible repeat (first | refine zg ?_ _ | refine zi ?_ | refine zh ?_ _)); exact BK193.out) Tryd.underlying24 rfl (by kernel_rfl)) rfl ?_
  exact ⟨_, by first | rfl | (simp [yl, ym] <;> rfl) | (simp [*, yl, ym] <;> rfl), by first | exact Kd.R_nil _ _ _ _ _ | exact Kd.N_nil _ _ _ _ _ | exact Kd.V_nil _ _ _ _ _ | exact Kd.Q_nil _ _ _ _ _ | exact Kd.S_nil _ _ _ _ _, by repeat (with_reducible first | exact HB.out | apply zd | apply zb | apply zc | refine zf ?_ GE192.out | refine zf ?_ GE193.out)⟩
def purl_Canonical.f (k : Nat) (a0_0 : ByteArray) (a0_1 : ByteArray) (a0_2 : ByteArray) (a0_3 : ByteArray) (l0_4 : List (S64)) (a0_5 : ByteArray) : Option (ByteArray × ByteArray × ByteArray × ByteArray × (List (S64)) × ByteArray × Int) := (purl_Check.f k a0_0 a0_1 a0_2 a0_3 l0_4 a0_5).bind fun t205 => (if t205 = 0 then ((purl_canonical.f a0_0 a0_1 a0_2 a0_3 l0_4 a0_5).bind fun bt206 => (some (bt206.1, bt206.2.1, bt206.2.2.1, bt206.2.2.2.1, bt206.2.2.2.2.1, bt206.2.2.2.2.2, 0))) else (some ((⟨#[]⟩ : ByteArray), (⟨#[]⟩ : ByteArray), (⟨#[]⟩ : ByteArray), (⟨#[]⟩ : ByteArray), ([] : List (S64)), (⟨#[]⟩ : ByteArray), t205)))
set_option maxHeartbeats 8000000 in
set_option maxRecDepth 100000 in
theorem purl_Canonical.calls (k : Nat) (a0_0 : ByteArray) (a0_1 : ByteArray) (a0_2 : ByteArray) (a0_3 : ByteArray) (A0_4 : Option Addr) (c0_4 : Nat) (l0_4 : List (S64)) (a0_5 : ByteArray) (r1 : ByteArray) (r2 : ByteArray) (r3 : ByteArray) (r4 : ByteArray) (r5 : List (S64)) (r6 : ByteArray) (r7 : Int) (w : World) (hr0_4 : Kd.C k64 w A0_4 l0_4.length l0_4) (hc0_4 : l0_4.length ≤ c0_4) (h : purl_Canonical.f k a0_0 a0_1 a0_2 a0_3 l0_4 a0_5 = some (r1, r2, r3, r4, r5, r6, r7)) :
  Calls Tryd.prog 21 #[.agg #[.string a0_0, .string a0_1, .string a0_2, .string a0_3, .slice A0_4 l0_4.length c0_4, .string a0_5]] w fun e w' => ∃ v4_ : Value, e = .returned (.tuple #[.agg #[.string r1, .string r2, .string r3, .string r4, v4_, .string r6], .int .i64 r7]) ∧ Kd.R k64 64 w' w.heap.size (fun _ => True) v4_ r5 ∧ Below w.heap.size w w' := by
 have hu24 := Tryd.underlying24
 have HR0_4 := Aq.mk hr0_4
 have HC0_4 := Aq.mk hc0_4
 clear hr0_4 hc0_4
 have HB := Aq.mk (Below.refl w.heap.size w)
 have H : ((purl_Check.f k a0_0 a0_1 a0_2 a0_3 l0_4 a0_5).bind fun t205 => (if t205 = 0 then ((purl_canonical.f a0_0 a0_1 a0_2 a0_3 l0_4 a0_5).bind fun bt206 => (some (bt206.1, bt206.2.1, bt206.2.2.1, bt206.2.2.2.1, bt206.2.2.2.2.1, bt206.2.2.2.2.2, 0))) else (some ((⟨#[]⟩ : ByteArray), (⟨#[]⟩ : ByteArray), (⟨#[]⟩ : ByteArray), (⟨#[]⟩ : ByteArray), ([] : List (S64)), (⟨#[]⟩ : ByteArray), t205)))) = some (r1, r2, r3, r4, r5, r6, r7) := h
 clear h
 replace H := zu.mp H
 obtain ⟨t205, A20, H⟩ := H
 replace H : (if t205 = 0 then ((purl_canonical.f a0_0 a0_1 a0_2 a0_3 l0_4 a0_5).bind fun bt206 => (some (bt206.1, bt206.2.1, bt206.2.2.1, bt206.2.2.2.1, bt206.2.2.2.2.1, bt206.2.2.2.2.2, 0))) else (some ((⟨#[]⟩ : ByteArray), (⟨#[]⟩ : ByteArray), (⟨#[]⟩ : ByteArray), (⟨#[]⟩ : ByteArray), ([] : List (S64)), (⟨#[]⟩ : ByteArray), t205))) = some (r1, r2, r3, r4, r5, r6, r7) := H
 have A2 := Aq.mk A20
 clear A20
 by_cases c3 : t205 = 0
 ·rw [if_pos c3] at H
  have c3b0 : (t205 == 0) = true := yc.mpr c3
  have c3b1 : (t205 != 0) = false := yf.mpr c3
  clear c3
  replace H := zu.mp H
  obtain ⟨⟨t206, t207, t208, t209, t210, t213⟩, A40, H⟩ := H
  replace H : (some (t206, t207, t208, t209, t210, t213, 0)) = some (r1, r2, r3, r4, r5, r6, r7) := H
  have A4 := Aq.mk A40
  clear A40
  simp only [zH, zI] at H
  obtain ⟨rfl, rfl, rfl, rfl, rfl, rfl, rfl⟩ := H
  go_enter Tryd.func21, Tryd.ntmps21
  go_wp2_with (first | ((with_reducible refine gate_dst (N := 1) rfl ?_); refine box_event ?hg (N := 1) ?hd (cs := #[.string a0_0, .string a0_1, .string a0_2, .string a0_3, .slice A0_4 l0_4.length c0_4, .string a0_5]) (t := 24) ?hr ?_; (case hd => rfl); (case hg => rfl); (case hr => first | (go_simp; done) | (go_simp; rfl)); intro gb203 hg w5 hbox hb; have n0_ := Aq.mk (zv (by repeat (with_reducible first | exact HB.out | apply zd | apply zb | apply zc)) hb); have n1_ := Aq.mk (hbox); have n2_ := Aq.mk ((by rw [hg]; exact (zz (by repeat (with_reducible first | exact HB.out | apply zd | apply zb | apply zc))) : w.heap.size ≤ gb203)); have n3_ := Aq.mk ((by rw [hg]; exact (zz (by repeat (with_reducible first | exact HB.out | apply zd | apply zb | apply zc))) : w.heap.size ≤ gb203)); clear HB; have HB := n0_; have BK203 := n1_; have GW203 := n2_; have GE203 := n3_; clear n0_ n1_ n2_ n3_; clear hb hbox hg) | ((with_reducible refine gate_dst (N := 2) rfl ?_); refine box_event ?hg (N := 2) ?hd (cs := #[.string (⟨#[]⟩ : ByteArray), .string (⟨#[]⟩ : ByteArray), .string (⟨#[]⟩ : ByteArray), .string (⟨#[]⟩ : ByteArray), .slice none 0 0, .string (⟨#[]⟩ : ByteArray)]) (t := 24) ?hr ?_; (case hd => rfl); (case hg => rfl); (case hr => first | (go_simp; done) | (go_simp; rfl)); intro gb204 hg w6 hbox hb; have n0_ := Aq.mk (zw (g := gb203) (o := .cells #[.string a0_0, .string a0_1, .string a0_2, .string a0_3, .slice A0_4 l0_4.length c0_4, .string a0_5] 24 (0, 0)) (by (with_reducible repeat (first | refine zg ?_ _ | refine zi ?_ | refine zh ?_ _)); exact BK203.out) hb); have n1_ := Aq.mk (zv (by repeat (with_reducible first | exact HB.out | apply zd | apply zb | apply zc | refine zf ?_ GE203.out)) hb); have n2_ := Aq.mk (hbox); have n3_ := Aq.mk ((by rw [hg]; exact (zz (by repeat (with_reducible first | exact HB.out | apply zd | apply zb | apply zc | refine zf ?_ GE203.out))) : w.heap.size ≤ gb204)); have n4_ := Aq.mk ((by rw [hg]; exact (zz (by repeat (with_reducible first | exact HB.out | apply zd | apply zb | apply zc | refine zf ?_ GE203.out))) : w.heap.size ≤ gb204)); have n5_ := Aq.mk ((by rw [hg]; exact Nat.ne_of_lt (zA (g := gb203) (o := .cells #[.string a0_0, .string a0_1, .string a0_2, .string a0_3, .slice A0_4 l0_4.length c0_4, .string a0_5] 24 (0, 0)) (by (with_reducible repeat (first | refine zg ?_ _ | refine zi ?_ | refine zh ?_ _)); exact BK203.out)) : gb203 ≠ gb204)); have n6_ := Aq.mk ((by rw [hg]; exact Nat.ne_of_gt (zA (g := gb203) (o := .cells #[.string a0_0, .string a0_1, .string a0_2, .string a0_3, .slice A0_4 l0_4.length c0_4, .string a0_5] 24 (0, 0)) (by (with_reducible repeat (first | refine zg ?_ _ | refine zi ?_ | refine zh ?_ _)); exact BK203.out)) : gb204 ≠ gb203)); clear BK203; clear HB; have BK203 := n0_; have HB := n1_; have BK204 := n2_; have GW204 := n3_; have GE204 := n4_; have NB203_204 := n5_; have NB204_203 := n6_; clear n0_ n1_ n2_ n3_ n4_ n5_ n6_; clear hb hbox hg; have hnb7 := NB203_204.out; have hnc7 := NB204_203.out; have hcz8_0 : w6.cell? ⟨gb203, 0, none⟩ = some (.string a0_0) := (ze BK203.out 0).trans rfl; have hcz8_1 : w6.cell? ⟨gb203, 1, none⟩ = some (.string a0_1) := (ze BK203.out 1).trans rfl; have hcz8_2 : w6.cell? ⟨gb203, 2, none⟩ = some (.string a0_2) := (ze BK203.out 2).trans rfl; have hcz8_3 : w6.cell? ⟨gb203, 3, none⟩ = some (.string a0_3) := (ze BK203.out 3).trans rfl; have hcz8_4 : w6.cell? ⟨gb203, 4, none⟩ = some (.slice A0_4 l0_4.length c0_4) := (ze BK203.out 4).trans rfl; have hcz8_5 : w6.cell? ⟨gb203, 5, none⟩ = some (.string a0_5) := (ze BK203.out 5).trans rfl; have hfz8_0 := za BK203.out 0; have hfz8_1 := za BK203.out 1; have hfz8_2 := za BK203.out 2; have hfz8_3 := za BK203.out 3; have hfz8_4 := za BK203.out 4; have hfz8_5 := za BK203.out 5) | ((with_reducible refine gate_callee (f := 26) rfl ?_); refine goesL_ (some 6) rfl rfl Tryd.func26 (by kernel_rfl) rfl #[.agg #[.string a0_0, .string a0_1, .string a0_2, .string a0_3, .slice A0_4 l0_4.length c0_4, .string a0_5]] rfl (by (try simp only [zP, zQ, zR]); first | done | rfl | (simp only [zS, zT]; rfl)) ?_; (with_reducible refine (purl_Check.calls k a0_0 a0_1 a0_2 a0_3 _ _ l0_4 a0_5 t205 _ ?side1 ?side2 A2.out).mono ?_); (case side1 => repeat (first | exact (Kd.C_below HR0_4.out HB.out) | (with_reducible refine zF ?_ _) | (with_reducible refine zE ?_ _) | (with_reducible refine zG ?_))); (case side2 => exact HC0_4.out); rintro e w9 ⟨rfl, hb⟩; refine ⟨_, rfl, ?_⟩; have n0_ := Aq.mk (zw (g := gb203) (o := .cells #[.string a0_0, .string a0_1, .string a0_2, .string a0_3, .slice A0_4 l0_4.length c0_4, .string a0_5] 24 (0, 0)) (by (with_reducible repeat (first | refine zg ?_ _ | refine zi ?_ | refine zh ?_ _)); exact BK203.out) hb); have n1_ := Aq.mk (zw (g := gb204) (o := .cells #[.string (⟨#[]⟩ : ByteArray), .string (⟨#[]⟩ : ByteArray), .string (⟨#[]⟩ : ByteArray), .string (⟨#[]⟩ : ByteArray), .slice none 0 0, .string (⟨#[]⟩ : ByteArray)] 24 (0, 0)) (by (with_reducible repeat (first | refine zg ?_ _ | refine zi ?_ | refine zh ?_ _)); exact BK204.out) hb); have n2_ := Aq.mk (zv (by repeat (with_reducible first | exact HB.out | apply zd | apply zb | apply zc | refine zf ?_ GE203.out | refine zf ?_ GE204.out)) hb); clear BK203; clear BK204; clear HB; have BK203 := n0_; have BK204 := n1_; have HB := n2_; clear n0_ n1_ n2_; (try clear hb); (try clear hb2); (try clear hk); (try clear hi); have hcz10_0 : w9.cell? ⟨gb203, 0, none⟩ = some (.string a0_0) := (ze BK203.out 0).trans rfl; have hcz10_1 : w9.cell? ⟨gb203, 1, none⟩ = some (.string a0_1) := (ze BK203.out 1).trans rfl; have hcz10_2 : w9.cell? ⟨gb203, 2, none⟩ = some (.string a0_2) := (ze BK203.out 2).trans rfl; have hcz10_3 : w9.cell? ⟨gb203, 3, none⟩ = some (.string a0_3) := (ze BK203.out 3).trans rfl; have hcz10_4 : w9.cell? ⟨gb203, 4, none⟩ = some (.slice A0_4 l0_4.length c0_4) := (ze BK203.out 4).trans rfl; have hcz10_5 : w9.cell? ⟨gb203, 5, none⟩ = some (.string a0_5) := (ze BK203.out 5).trans rfl; have hfz10_0 := za BK203.out 0; have hfz10_1 := za BK203.out 1; have hfz10_2 := za BK203.out 2; have hfz10_3 := za BK203.out 3; have hfz10_4 := za BK203.out 4; have hfz10_5 := za BK203.out 5) | ((with_reducible refine gate_callee (f := 50) rfl ?_); refine goesL_ (some 12) rfl rfl Tryd.func50 (by kernel_rfl) rfl #[.agg #[.string a0_0, .string a0_1, .string a0_2, .string a0_3, .slice A0_4 l0_4.length c0_4, .string a0_5]] rfl (by (try simp only [zP, zQ, zR]); first | done | rfl | (simp only [zS, zT]; rfl)) ?_; (with_reducible refine (purl_canonical.calls a0_0 a0_1 a0_2 a0_3 _ _ l0_4 a0_5 t206 t207 t208 t209 t210 t213 _ ?side1 ?side2 A4.out).mono ?_); (case side1 => repeat (first | exact (Kd.C_below HR0_4.out HB.out) | (with_reducible refine zF ?_ _) | (with_reducible refine zE ?_ _) | (with_reducible refine zG ?_))); (case side2 => exact HC0_4.out); rintro e w11 ⟨v211, rfl, ho0, hb⟩; refine ⟨_, rfl, ?_⟩; have n0_ := Aq.mk (zX ho0 (zz (by repeat (with_reducible first | exact HB.out | apply zd | apply zb | apply zc | refine zf ?_ GE203.out | refine zf ?_ GE204.out)))); have n1_ := Aq.mk (zw (g := gb203) (o := .cells #[.string a0_0, .string a0_1, .string a0_2, .string a0_3, .slice A0_4 l0_4.length c0_4, .string a0_5] 24 (0, 0)) (by (with_reducible repeat (first | refine zg ?_ _ | refine zi ?_ | refine zh ?_ _)); exact BK203.out) hb); have n2_ := Aq.mk (zw (g := gb204) (o := .cells #[.string (⟨#[]⟩ : ByteArray), .string (⟨#[]⟩ : ByteArray), .string (⟨#[]⟩ : ByteArray), .string (⟨#[]⟩ : ByteArray), .slice none 0 0, .string (⟨#[]⟩ : ByteArray)] 24 (0, 0)) (by (with_reducible repeat (first | refine zg ?_ _ | refine zi ?_ | refine zh ?_ _)); exact BK204.out) hb); have n3_ := Aq.mk (zv (by repeat (with_reducible first | exact HB.out | apply zd | apply zb | apply zc | refine zf ?_ GE203.out | refine zf ?_ GE204.out)) hb); clear BK203; clear BK204; clear HB; have HO212 := n0_; have BK203 := n1_; have BK204 := n2_; have HB := n3_; clear n0_ n1_ n2_ n3_; (try clear hb); (try clear hb2); (try clear hk); (try clear hi); (try clear ho0); have hcz12_0 : w11.cell? ⟨gb204, 0, none⟩ = some (.string (⟨#[]⟩ : ByteArray)) := (ze BK204.out 0).trans rfl; have hcz12_1 : w11.cell? ⟨gb204, 1, none⟩ = some (.string (⟨#[]⟩ : ByteArray)) := (ze BK204.out 1).trans rfl; have hcz12_2 : w11.cell? ⟨gb204, 2, none⟩ = some (.string (⟨#[]⟩ : ByteArray)) := (ze BK204.out 2).trans rfl; have hcz12_3 : w11.cell? ⟨gb204, 3, none⟩ = some (.string (⟨#[]⟩ : ByteArray)) := (ze BK204.out 3).trans rfl; have hcz12_4 : w11.cell? ⟨gb204, 4, none⟩ = some (.slice none 0 0) := (ze BK204.out 4).trans rfl; have hcz12_5 : w11.cell? ⟨gb204, 5, none⟩ = some (.string (⟨#[]⟩ : ByteArray)) := (ze BK204.out 5).trans rfl; have hfz12_0 := za BK204.out 0; have hfz12_1 := za BK204.out 1; have hfz12_2 := za BK204.out 2; have hfz12_3 := za BK204.out 3; have hfz12_4 := za BK204.out 4; have hfz12_5 := za BK204.out 5; obtain ⟨Ao13, co13, eo13⟩ := yi HO212.out; subst eo13))
  refine bodyPost_ret (results_ct rfl _ _ gb204 24 #[.string t206, .string t207, .string t208, .string t209, .slice Ao13 t210.length co13, .string t213] (0, 0) _ rfl (by (with_reducible repeat (first | refine zg ?_ _ | refine zi ?_ | refine zh ?_ _)); refine zy (cs := #[.string t206, .string t207, .string t208, .string t209, .slice Ao13 t210.length co13, .string (⟨#[]⟩ : ByteArray)]) ?_ 5 _ rfl; (with_reducible repeat (first | refine zg ?_ _ | refine zi ?_ | refine zh ?_ _)); refine zy (cs := #[.string t206, .string t207, .string t208, .string t209, .slice none 0 0, .string (⟨#[]⟩ : ByteArray)]) ?_ 4 _ rfl; (with_reducible repeat (first | refine zg ?_ _ | refine zi ?_ | refine zh ?_ _)); refine zy (cs := #[.string t206, .string t207, .string t208, .string (⟨#[]⟩ : ByteArray), .slice none 0 0, .string (⟨#[]⟩ : ByteArray)]) ?_ 3 _ rfl; (with_reducible repeat (first | refine zg ?_ _ | refine zi ?_ | refine zh ?_ _)); refine zy (cs := #[.string t206, .string t207, .string (⟨#[]⟩ : ByteArray), .string (⟨#[]⟩ : ByteArray), .slice none 0 0, .string (⟨#[]⟩ : ByteArray)]) ?_ 2 _ rfl; (with_reducible repeat (first | refine zg ?_ _ | refine zi ?_ | refine zh ?_ _)); refine zy (cs := #[.string t206, .string (⟨#[]⟩ : ByteArray), .string (⟨#[]⟩ : ByteArray), .string (⟨#[]⟩ : ByteArray), .slice none 0 0, .string (⟨#[]⟩ : ByteArray)]) ?_ 1 _ rfl; (with_reducible repeat (first | refine zg ?_ _ | refine zi ?_ | refine zh ?_ _)); refine zy (cs := #[.string (⟨#[]⟩ : ByteArray), .string (⟨#[]⟩ : ByteArray), .string (⟨#[]⟩ : ByteArray), .string (⟨#[]⟩ : ByteArray), .slice none 0 0, .string (⟨#[]⟩ : ByteArray)]) ?_ 0 _ rfl; (with_reducible repeat (first | refine zg ?_ _ | refine zi ?_ | refine zh ?_ _)); exact BK204.out) Tryd.underlying24 rfl (by kernel_rfl)) rfl ?_
  exact ⟨_, by first | rfl | (simp [yl, ym] <;> rfl) | (simp [*, yl, ym] <;> rfl), by (with_reducible repeat (first | apply zC | apply zB | apply zD)); exact Kd.R_mono (Kd.R_far (p := ⟨gb204, 5, none⟩) (Kd.R_far (p := ⟨gb204, 4, none⟩) (Kd.R_far (p := ⟨gb204, 3, none⟩) (Kd.R_far (p := ⟨gb204, 2, none⟩) (Kd.R_far (p := ⟨gb204, 1, none⟩) (Kd.R_far (p := ⟨gb204, 0, none⟩) (Kd.R_types HO212.out BK204.out (by decide)) (fun _ hk => hk.2) (.string t206)) (fun _ hk => hk.2) (.string t207)) (fun _ hk => hk.2) (.string t208)) (fun _ hk => hk.2) (.string t209)) (fun _ hk => hk.2) (.slice Ao13 t210.length co13)) (fun _ hk => hk.2) (.string t213)) (fun _ hk => trivial), by repeat (with_reducible first | exact HB.out | apply zd | apply zb | apply zc | refine zf ?_ GE203.out | refine zf ?_ GE204.out)⟩
 ·rw [if_neg c3] at H
  have c3b0 : (t205 == 0) = false := ye.mpr c3
  have c3b1 : (t205 != 0) = true := yd.mpr c3
  simp only [zH, zI] at H
  obtain ⟨rfl, rfl, rfl, rfl, rfl, rfl, rfl⟩ := H
  go_enter Tryd.func21, Tryd.ntmps21
  go_wp2_with (first | ((with_reducible refine gate_dst (N := 1) rfl ?_); refine box_event ?hg (N := 1) ?hd (cs := #[.string a0_0, .string a0_1, .string a0_2, .string a0_3, .slice A0_4 l0_4.length c0_4, .string a0_5]) (t := 24) ?hr ?_; (case hd => rfl); (case hg => rfl); (case hr => first | (go_simp; done) | (go_simp; rfl)); intro gb203 hg w14 hbox hb; have n0_ := Aq.mk (zv (by repeat (with_reducible first | exact HB.out | apply zd | apply zb | apply zc)) hb); have n1_ := Aq.mk (hbox); have n2_ := Aq.mk ((by rw [hg]; exact (zz (by repeat (with_reducible first | exact HB.out | apply zd | apply zb | apply zc))) : w.heap.size ≤ gb203)); have n3_ := Aq.mk ((by rw [hg]; exact (zz (by repeat (with_reducible first | exact HB.out | apply zd | apply zb | apply zc))) : w.heap.size ≤ gb203)); clear HB; have HB := n0_; have BK203 := n1_; have GW203 := n2_; have GE203 := n3_; clear n0_ n1_ n2_ n3_; clear hb hbox hg) | ((with_reducible refine gate_dst (N := 2) rfl ?_); refine box_event ?hg (N := 2) ?hd (cs := #[.string (⟨#[]⟩ : ByteArray), .string (⟨#[]⟩ : ByteArray), .string (⟨#[]⟩ : ByteArray), .string (⟨#[]⟩ : ByteArray), .slice none 0 0, .string (⟨#[]⟩ : ByteArray)]) (t := 24) ?hr ?_; (case hd => rfl); (case hg => rfl); (case hr => first | (go_simp; done) | (go_simp; rfl)); intro gb204 hg w15 hbox hb; have n0_ := Aq.mk (zw (g := gb203) (o := .cells #[.string a0_0, .string a0_1, .string a0_2, .string a0_3, .slice A0_4 l0_4.length c0_4, .string a0_5] 24 (0, 0)) (by (with_reducible repeat (first | refine zg ?_ _ | refine zi ?_ | refine zh ?_ _)); exact BK203.out) hb); have n1_ := Aq.mk (zv (by repeat (with_reducible first | exact HB.out | apply zd | apply zb | apply zc | refine zf ?_ GE203.out)) hb); have n2_ := Aq.mk (hbox); have n3_ := Aq.mk ((by rw [hg]; exact (zz (by repeat (with_reducible first | exact HB.out | apply zd | apply zb | apply zc | refine zf ?_ GE203.out))) : w.heap.size ≤ gb204)); have n4_ := Aq.mk ((by rw [hg]; exact (zz (by repeat (with_reducible first | exact HB.out | apply zd | apply zb | apply zc | refine zf ?_ GE203.out))) : w.heap.size ≤ gb204)); have n5_ := Aq.mk ((by rw [hg]; exact Nat.ne_of_lt (zA (g := gb203) (o := .cells #[.string a0_0, .string a0_1, .string a0_2, .string a0_3, .slice A0_4 l0_4.length c0_4, .string a0_5] 24 (0, 0)) (by (with_reducible repeat (first | refine zg ?_ _ | refine zi ?_ | refine zh ?_ _)); exact BK203.out)) : gb203 ≠ gb204)); have n6_ := Aq.mk ((by rw [hg]; exact Nat.ne_of_gt (zA (g := gb203) (o := .cells #[.string a0_0, .string a0_1, .string a0_2, .string a0_3, .slice A0_4 l0_4.length c0_4, .string a0_5] 24 (0, 0)) (by (with_reducible repeat (first | refine zg ?_ _ | refine zi ?_ | refine zh ?_ _)); exact BK203.out)) : gb204 ≠ gb203)); clear BK203; clear HB; have BK203 := n0_; have HB := n1_; have BK204 := n2_; have GW204 := n3_; have GE204 := n4_; have NB203_204 := n5_; have NB204_203 := n6_; clear n0_ n1_ n2_ n3_ n4_ n5_ n6_; clear hb hbox hg; have hnb16 := NB203_204.out; have hnc16 := NB204_203.out; have hcz17_0 : w15.cell? ⟨gb203, 0, none⟩ = some (.string a0_0) := (ze BK203.out 0).trans rfl; have hcz17_1 : w15.cell? ⟨gb203, 1, none⟩ = some (.string a0_1) := (ze BK203.out 1).trans rfl; have hcz17_2 : w15.cell? ⟨gb203, 2, none⟩ = some (.string a0_2) := (ze BK203.out 2).trans rfl; have hcz17_3 : w15.cell? ⟨gb203, 3, none⟩ = some (.string a0_3) := (ze BK203.out 3).trans rfl; have hcz17_4 : w15.cell? ⟨gb203, 4, none⟩ = some (.slice A0_4 l0_4.length c0_4) := (ze BK203.out 4).trans rfl; have hcz17_5 : w15.cell? ⟨gb203, 5, none⟩ = some (.string a0_5) := (ze BK203.out 5).trans rfl; have hfz17_0 := za BK203.out 0; have hfz17_1 := za BK203.out 1; have hfz17_2 := za BK203.out 2; have hfz17_3 := za BK203.out 3; have hfz17_4 := za BK203.out 4; have hfz17_5 := za BK203.out 5) | ((with_reducible refine gate_callee (f := 26) rfl ?_); refine goesL_ (some 6) rfl rfl Tryd.func26 (by kernel_rfl) rfl #[.agg #[.string a0_0, .string a0_1, .string a0_2, .string a0_3, .slice A0_4 l0_4.length c0_4, .string a0_5]] rfl (by (try simp only [zP, zQ, zR]); first | done | rfl | (simp only [zS, zT]; rfl)) ?_; (with_reducible refine (purl_Check.calls k a0_0 a0_1 a0_2 a0_3 _ _ l0_4 a0_5 t205 _ ?side1 ?side2 A2.out).mono ?_); (case side1 => repeat (first | exact (Kd.C_below HR0_4.out HB.out) | (with_reducible refine zF ?_ _) | (with_reducible refine zE ?_ _) | (with_reducible refine zG ?_))); (case side2 => exact HC0_4.out); rintro e w18 ⟨rfl, hb⟩; refine ⟨_, rfl, ?_⟩; have n0_ := Aq.mk (zw (g := gb203) (o := .cells #[.string a0_0, .string a0_1, .string a0_2, .string a0_3, .slice A0_4 l0_4.length c0_4, .string a0_5] 24 (0, 0)) (by (with_reducible repeat (first | refine zg ?_ _ | refine zi ?_ | refine zh ?_ _)); exact BK203.out) hb); have n1_ := Aq.mk (zw (g := gb204) (o := .cells #[.string (⟨#[]⟩ : ByteArray), .string (⟨#[]⟩ : ByteArray), .string (⟨#[]⟩ : ByteArray), .string (⟨#[]⟩ : ByteArray), .slice none 0 0, .string (⟨#[]⟩ : ByteArray)] 24 (0, 0)) (by (with_reducible repeat (first | refine zg ?_ _ | refine zi ?_ | refine zh ?_ _)); exact BK204.out) hb); have n2_ := Aq.mk (zv (by repeat (with_reducible first | exact HB.out | apply zd | apply zb | apply zc | refine zf ?_ GE203.out | refine zf ?_ GE204.out)) hb); clear BK203; clear BK204; clear HB; have BK203 := n0_; have BK204 := n1_; have HB := n2_; clear n0_ n1_ n2_; (try clear hb); (try clear hb2); (try clear hk); (try clear hi); have hcz19_0 : w18.cell? ⟨gb204, 0, none⟩ = some (.string (⟨#[]⟩ : ByteArray)) := (ze BK204.out 0).trans rfl; have hcz19_1 : w18.cell? ⟨gb204, 1, none⟩ = some (.string (⟨#[]⟩ : ByteArray)) := (ze BK204.out 1).trans rfl; have hcz19_2 : w18.cell? ⟨gb204, 2, none⟩ = some (.string (⟨#[]⟩ : ByteArray)) := (ze BK204.out 2).trans rfl; have hcz19_3 : w18.cell? ⟨gb204, 3, none⟩ = some (.string (⟨#[]⟩ : ByteArray)) := (ze BK204.out 3).trans rfl; have hcz19_4 : w18.cell? ⟨gb204, 4, none⟩ = some (.slice none 0 0) := (ze BK204.out 4).trans rfl; have hcz19_5 : w18.cell? ⟨gb204, 5, none⟩ = some (.string (⟨#[]⟩ : ByteArray)) := (ze BK204.out 5).trans rfl; have hfz19_0 := za BK204.out 0; have hfz19_1 := za BK204.out 1; have hfz19_2 := za BK204.out 2; have hfz19_3 := za BK204.out 3; have hfz19_4 := za BK204.out 4; have hfz19_5 := za BK204.out 5))
  refine bodyPost_ret (results_ct rfl _ _ gb204 24 #[.string (⟨#[]⟩ : ByteArray), .string (⟨#[]⟩ : ByteArray), .string (⟨#[]⟩ : ByteArray), .string (⟨#[]⟩ : ByteArray), .slice none 0 0, .string (⟨#[]⟩ : ByteArray)] (0, 0) _ rfl (by (with_reducible repeat (first | refine zg ?_ _ | refine zi ?_ | refine zh ?_ _)); refine zy (cs := #[.string (⟨#[]⟩ : ByteArray), .string (⟨#[]⟩ : ByteArray), .string (⟨#[]⟩ : ByteArray), .string (⟨#[]⟩ : ByteArray), .slice none 0 0, .string (⟨#[]⟩ : ByteArray)]) ?_ 5 _ rfl; (with_reducible repeat (first | refine zg ?_ _ | refine zi ?_ | refine zh ?_ _)); refine zy (cs := #[.string (⟨#[]⟩ : ByteArray), .string (⟨#[]⟩ : ByteArray), .string (⟨#[]⟩ : ByteArray), .string (⟨#[]⟩ : ByteArray), .slice none 0 0, .string (⟨#[]⟩ : ByteArray)]) ?_ 4 _ rfl; (with_reducible repeat (first | refine zg ?_ _ | refine zi ?_ | refine zh ?_ _)); refine zy (cs := #[.string (⟨#[]⟩ : ByteArray), .string (⟨#[]⟩ : ByteArray), .string (⟨#[]⟩ : ByteArray), .string (⟨#[]⟩ : ByteArray), .slice none 0 0, .string (⟨#[]⟩ : ByteArray)]) ?_ 3 _ rfl; (with_reducible repeat (first | refine zg ?_ _ | refine zi ?_ | refine zh ?_ _)); refine zy (cs := #[.string (⟨#[]⟩ : ByteArray), .string (⟨#[]⟩ : ByteArray), .string (⟨#[]⟩ : ByteArray), .string (⟨#[]⟩ : ByteArray), .slice none 0 0, .string (⟨#[]⟩ : ByteArray)]) ?_ 2 _ rfl; (with_reducible repeat (first | refine zg ?_ _ | refine zi ?_ | refine zh ?_ _)); refine zy (cs := #[.string (⟨#[]⟩ : ByteArray), .string (⟨#[]⟩ : ByteArray), .string (⟨#[]⟩ : ByteArray), .string (⟨#[]⟩ : ByteArray), .slice none 0 0, .string (⟨#[]⟩ : ByteArray)]) ?_ 1 _ rfl; (with_reducible repeat (first | refine zg ?_ _ | refine zi ?_ | refine zh ?_ _)); refine zy (cs := #[.string (⟨#[]⟩ : ByteArray), .string (⟨#[]⟩ : ByteArray), .string (⟨#[]⟩ : ByteArray), .string (⟨#[]⟩ : ByteArray), .slice none 0 0, .string (⟨#[]⟩ : ByteArray)]) ?_ 0 _ rfl; (with_reducible repeat (first | refine zg ?_ _ | refine zi ?_ | refine zh ?_ _)); exact BK204.out) Tryd.underlying24 rfl (by kernel_rfl)) rfl ?_
  exact ⟨_, by first | rfl | (simp [yl, ym] <;> rfl) | (simp [*, yl, ym] <;> rfl), by first | exact Kd.R_nil _ _ _ _ _ | exact Kd.N_nil _ _ _ _ _ | exact Kd.V_nil _ _ _ _ _ | exact Kd.Q_nil _ _ _ _ _ | exact Kd.S_nil _ _ _ _ _, by repeat (with_reducible first | exact HB.out | apply zd | apply zb | apply zc | refine zf ?_ GE203.out | refine zf ?_ GE204.out)⟩
def r2_plain.f (a0 : Int) : Option (Bool) := if a0 ≥ 97 then (if a0 ≤ 122 then (some true) else (if a0 ≥ 65 then (if a0 ≤ 90 then (some true) else (if a0 ≥ 48 then (if a0 ≤ 57 then (some true) else (if a0 = 46 then (some true) else (if a0 = 45 then (some true) else (if a0 = 95 then (some true) else (some (a0 == 126)))))) else (if a0 = 46 then (some true) else (if a0 = 45 then (some true) else (if a0 = 95 then (some true) else (some (a0 == 126))))))) else (if a0 ≥ 48 then (if a0 ≤ 57 then (some true) else (if a0 = 46 then (some true) else (if a0 = 45 then (some true) else (if a0 = 95 then (some true) else (some (a0 == 126)))))) else (if a0 = 46 then (some true) else (if a0 = 45 then (some true) else (if a0 = 95 then (some true) else (some (a0 == 126)))))))) else (if a0 ≥ 65 then (if a0 ≤ 90 then (some true) else (if a0 ≥ 48 then (if a0 ≤ 57 then (some true) else (if a0 = 46 then (some true) else (if a0 = 45 then (some true) else (if a0 = 95 then (some true) else (some (a0 == 126)))))) else (if a0 = 46 then (some true) else (if a0 = 45 then (some true) else (if a0 = 95 then (some true) else (some (a0 == 126))))))) else (if a0 ≥ 48 then (if a0 ≤ 57 then (some true) else (if a0 = 46 then (some true) else (if a0 = 45 then (some true) else (if a0 = 95 then (some true) else (some (a0 == 126)))))) else (if a0 = 46 then (some true) else (if a0 = 45 then (some true) else (if a0 = 95 then (some true) else (some (a0 == 126)))))))
set_option maxHeartbeats 8000000 in
set_option maxRecDepth 100000 in
theorem r2_plain.calls (a0 : Int) (r : Bool) (w : World) (h : r2_plain.f a0 = some r) :
  Calls Tryd.prog 128 #[.int .u8 a0] w fun e w' => e = .returned (.bool r) ∧ Drawn0 w w' := by
 have H : (if a0 ≥ 97 then (if a0 ≤ 122 then (some true) else (if a0 ≥ 65 then (if a0 ≤ 90 then (some true) else (if a0 ≥ 48 then (if a0 ≤ 57 then (some true) else (if a0 = 46 then (some true) else (if a0 = 45 then (some true) else (if a0 = 95 then (some true) else (some (a0 == 126)))))) else (if a0 = 46 then (some true) else (if a0 = 45 then (some true) else (if a0 = 95 then (some true) else (some (a0 == 126))))))) else (if a0 ≥ 48 then (if a0 ≤ 57 then (some true) else (if a0 = 46 then (some true) else (if a0 = 45 then (some true) else (if a0 = 95 then (some true) else (some (a0 == 126)))))) else (if a0 = 46 then (some true) else (if a0 = 45 then (some true) else (if a0 = 95 then (some true) else (some (a0 == 126)))))))) else (if a0 ≥ 65 then (if a0 ≤ 90 then (some true) else (if a0 ≥ 48 then (if a0 ≤ 57 then (some true) else (if a0 = 46 then (some true) else (if a0 = 45 then (some true) else (if a0 = 95 then (some true) else (some (a0 == 126)))))) else (if a0 = 46 then (some true) else (if a0 = 45 then (some true) else (if a0 = 95 then (some true) else (some (a0 == 126))))))) else (if a0 ≥ 48 then (if a0 ≤ 57 then (some true) else (if a0 = 46 then (some true) else (if a0 = 45 then (some true) else (if a0 = 95 then (some true) else (some (a0 == 126)))))) else (if a0 = 46 then (some true) else (if a0 = 45 then (some true) else (if a0 = 95 then (some true) else (some (a0 == 126)))))))) = some r := h
 clear h
 by_cases c2 : a0 ≥ 97
 ·rw [if_pos c2] at H
  have c2b0 : decide (97 ≤ a0) = true := zk c2
  clear c2
  by_cases c3 : a0 ≤ 122
  ·rw [if_pos c3] at H
   have c3b0 : decide (a0 ≤ 122) = true := zk c3
   clear c3
   obtain rfl := yg H
   simp only [zH, zI] at H
   obtain ⟨rfl⟩ := H
   go_enter Tryd.func128, Tryd.ntmps128
   go_wp2
   go_ret
   exact ⟨by first | rfl | (simp; done) | (simp [*]; done), by repeat (first | exact zN _ | apply zO)⟩
  ·rw [if_neg c3] at H
   have c3b0 : decide (a0 ≤ 122) = false := zl c3
   clear c3
   by_cases c4 : a0 ≥ 65
   ·rw [if_pos c4] at H
    have c4b0 : decide (65 ≤ a0) = true := zk c4
    clear c4
    by_cases c5 : a0 ≤ 90
    ·rw [if_pos c5] at H
     have c5b0 : decide (a0 ≤ 90) = true := zk c5
     clear c5
     obtain rfl := yg H
     simp only [zH, zI] at H
     obtain ⟨rfl⟩ := H
     go_enter Tryd.func128, Tryd.ntmps128
     go_wp2
     go_ret
     exact ⟨by first | rfl | (simp; done) | (simp [*]; done), by repeat (first | exact zN _ | apply zO)⟩
    ·rw [if_neg c5] at H
     have c5b0 : decide (a0 ≤ 90) = false := zl c5
     clear c5
     by_cases c6 : a0 ≥ 48
     ·rw [if_pos c6] at H
      have c6b0 : decide (48 ≤ a0) = true := zk c6
      clear c6
      by_cases c7 : a0 ≤ 57
      ·rw [if_pos c7] at H
       have c7b0 : decide (a0 ≤ 57) = true := zk c7
       clear c7
       obtain rfl := yg H
       simp only [zH, zI] at H
       obtain ⟨rfl⟩ := H
       go_enter Tryd.func128, Tryd.ntmps128
       go_wp2
       go_ret
       exact ⟨by first | rfl | (simp; done) | (simp [*]; done), by repeat (first | exact zN _ | apply zO)⟩
      ·rw [if_neg c7] at H
       have c7b0 : decide (a0 ≤ 57) = false := zl c7
       clear c7
       by_cases c8 : a0 = 46
       ·rw [if_pos c8] at H
        have c8b0 : (a0 == 46) = true := yc.mpr c8
        have c8b1 : (a0 != 46) = false := yf.mpr c8
        clear c8
        obtain rfl := yg H
        simp only [zH, zI] at H
        obtain ⟨rfl⟩ := H
        go_enter Tryd.func128, Tryd.ntmps128
        go_wp2
        go_ret
        exact ⟨by first | rfl | (simp; done) | (simp [*]; done), by repeat (first | exact zN _ | apply zO)⟩
       ·rw [if_neg c8] at H
        have c8b0 : (a0 == 46) = false := ye.mpr c8
        have c8b1 : (a0 != 46) = true := yd.mpr c8
        by_cases c9 : a0 = 45
        ·rw [if_pos c9] at H
         have c9b0 : (a0 == 45) = true := yc.mpr c9
         have c9b1 : (a0 != 45) = false := yf.mpr c9
         clear c9
         obtain rfl := yg H
         simp only [zH, zI] at H
         obtain ⟨rfl⟩ := H
         go_enter Tryd.func128, Tryd.ntmps128
         go_wp2
         go_ret
         exact ⟨by first | rfl | (simp; done) | (simp [*]; done), by repeat (first | exact zN _ | apply zO)⟩
        ·rw [if_neg c9] at H
         have c9b0 : (a0 == 45) = false := ye.mpr c9
         have c9b1 : (a0 != 45) = true := yd.mpr c9
         by_cases c10 : a0 = 95
         ·rw [if_pos c10] at H
          have c10b0 : (a0 == 95) = true := yc.mpr c10
          have c10b1 : (a0 != 95) = false := yf.mpr c10
          clear c10
          obtain rfl := yg H
          simp only [zH, zI] at H
          obtain ⟨rfl⟩ := H
          go_enter Tryd.func128, Tryd.ntmps128
          go_wp2
          go_ret
          exact ⟨by first | rfl | (simp; done) | (simp [*]; done), by repeat (first | exact zN _ | apply zO)⟩
         ·rw [if_neg c10] at H
          have c10b0 : (a0 == 95) = false := ye.mpr c10
          have c10b1 : (a0 != 95) = true := yd.mpr c10
          obtain rfl := yg H
          simp only [zH, zI] at H
          obtain ⟨rfl⟩ := H
          go_enter Tryd.func128, Tryd.ntmps128
          go_wp2
          go_ret
          exact ⟨by first | rfl | (simp; done) | (simp [*]; done), by repeat (first | exact zN _ | apply zO)⟩
     ·rw [if_neg c6] at H
      have c6b0 : decide (48 ≤ a0) = false := zl c6
      clear c6
      by_cases c11 : a0 = 46
      ·rw [if_pos c11] at H
       have c11b0 : (a0 == 46) = true := yc.mpr c11
       have c11b1 : (a0 != 46) = false := yf.mpr c11
       clear c11
       obtain rfl := yg H
       simp only [zH, zI] at H
       obtain ⟨rfl⟩ := H
       go_enter Tryd.func128, Tryd.ntmps128
       go_wp2
       go_ret
       exact ⟨by first | rfl | (simp; done) | (simp [*]; done), by repeat (first | exact zN _ | apply zO)⟩
      ·rw [if_neg c11] at H
       have c11b0 : (a0 == 46) = false := ye.mpr c11
       have c11b1 : (a0 != 46) = true := yd.mpr c11
       by_cases c12 : a0 = 45
       ·rw [if_pos c12] at H
        have c12b0 : (a0 == 45) = true := yc.mpr c12
        have c12b1 : (a0 != 45) = false := yf.mpr c12
        clear c12
        obtain rfl := yg H
        simp only [zH, zI] at H
        obtain ⟨rfl⟩ := H
        go_enter Tryd.func128, Tryd.ntmps128
        go_wp2
        go_ret
        exact ⟨by first | rfl | (simp; done) | (simp [*]; done), by repeat (first | exact zN _ | apply zO)⟩
       ·rw [if_neg c12] at H
        have c12b0 : (a0 == 45) = false := ye.mpr c12
        have c12b1 : (a0 != 45) = true := yd.mpr c12
        by_cases c13 : a0 = 95
        ·rw [if_pos c13] at H
         have c13b0 : (a0 == 95) = true := yc.mpr c13
         have c13b1 : (a0 != 95) = false := yf.mpr c13
         clear c13
         obtain rfl := yg H
         simp only [zH, zI] at H
         obtain ⟨rfl⟩ := H
         go_enter Tryd.func128, Tryd.ntmps128
         go_wp2
         go_ret
         exact ⟨by first | rfl | (simp; done) | (simp [*]; done), by repeat (first | exact zN _ | apply zO)⟩
        ·rw [if_neg c13] at H
         have c13b0 : (a0 == 95) = false := ye.mpr c13
         have c13b1 : (a0 != 95) = true := yd.mpr c13
         obtain rfl := yg H
         simp only [zH, zI] at H
         obtain ⟨rfl⟩ := H
         go_enter Tryd.func128, Tryd.ntmps128
         go_wp2
         go_ret
         exact ⟨by first | rfl | (simp; done) | (simp [*]; done), by repeat (first | exact zN _ | apply zO)⟩
   ·rw [if_neg c4] at H
    have c4b0 : decide (65 ≤ a0) = false := zl c4
    clear c4
    by_cases c14 : a0 ≥ 48
    ·rw [if_pos c14] at H
     have c14b0 : decide (48 ≤ a0) = true := zk c14
     clear c14
     by_cases c15 : a0 ≤ 57
     ·rw [if_pos c15] at H
      have c15b0 : decide (a0 ≤ 57) = true := zk c15
      clear c15
      obtain rfl := yg H
      simp only [zH, zI] at H
      obtain ⟨rfl⟩ := H
      go_enter Tryd.func128, Tryd.ntmps128
      go_wp2
      go_ret
      exact ⟨by first | rfl | (simp; done) | (simp [*]; done), by repeat (first | exact zN _ | apply zO)⟩
     ·rw [if_neg c15] at H
      have c15b0 : decide (a0 ≤ 57) = false := zl c15
      clear c15
      by_cases c16 : a0 = 46
      ·rw [if_pos c16] at H
       have c16b0 : (a0 == 46) = true := yc.mpr c16
       have c16b1 : (a0 != 46) = false := yf.mpr c16
       clear c16
       obtain rfl := yg H
       simp only [zH, zI] at H
       obtain ⟨rfl⟩ := H
       go_enter Tryd.func128, Tryd.ntmps128
       go_wp2
       go_ret
       exact ⟨by first | rfl | (simp; done) | (simp [*]; done), by repeat (first | exact zN _ | apply zO)⟩
      ·rw [if_neg c16] at H
       have c16b0 : (a0 == 46) = false := ye.mpr c16
       have c16b1 : (a0 != 46) = true := yd.mpr c16
       by_cases c17 : a0 = 45
       ·rw [if_pos c17] at H
        have c17b0 : (a0 == 45) = true := yc.mpr c17
        have c17b1 : (a0 != 45) = false := yf.mpr c17
        clear c17
        obtain rfl := yg H
        simp only [zH, zI] at H
        obtain ⟨rfl⟩ := H
        go_enter Tryd.func128, Tryd.ntmps128
        go_wp2
        go_ret
        exact ⟨by first | rfl | (simp; done) | (simp [*]; done), by repeat (first | exact zN _ | apply zO)⟩
       ·rw [if_neg c17] at H
        have c17b0 : (a0 == 45) = false := ye.mpr c17
        have c17b1 : (a0 != 45) = true := yd.mpr c17
        by_cases c18 : a0 = 95
        ·rw [if_pos c18] at H
         have c18b0 : (a0 == 95) = true := yc.mpr c18
         have c18b1 : (a0 != 95) = false := yf.mpr c18
         clear c18
         obtain rfl := yg H
         simp only [zH, zI] at H
         obtain ⟨rfl⟩ := H
         go_enter Tryd.func128, Tryd.ntmps128
         go_wp2
         go_ret
         exact ⟨by first | rfl | (simp; done) | (simp [*]; done), by repeat (first | exact zN _ | apply zO)⟩
        ·rw [if_neg c18] at H
         have c18b0 : (a0 == 95) = false := ye.mpr c18
         have c18b1 : (a0 != 95) = true := yd.mpr c18
         obtain rfl := yg H
         simp only [zH, zI] at H
         obtain ⟨rfl⟩ := H
         go_enter Tryd.func128, Tryd.ntmps128
         go_wp2
         go_ret
         exact ⟨by first | rfl | (simp; done) | (simp [*]; done), by repeat (first | exact zN _ | apply zO)⟩
    ·rw [if_neg c14] at H
     have c14b0 : decide (48 ≤ a0) = false := zl c14
     clear c14
     by_cases c19 : a0 = 46
     ·rw [if_pos c19] at H
      have c19b0 : (a0 == 46) = true := yc.mpr c19
      have c19b1 : (a0 != 46) = false := yf.mpr c19
      clear c19
      obtain rfl := yg H
      simp only [zH, zI] at H
      obtain ⟨rfl⟩ := H
      go_enter Tryd.func128, Tryd.ntmps128
      go_wp2
      go_ret
      exact ⟨by first | rfl | (simp; done) | (simp [*]; done), by repeat (first | exact zN _ | apply zO)⟩
     ·rw [if_neg c19] at H
      have c19b0 : (a0 == 46) = false := ye.mpr c19
      have c19b1 : (a0 != 46) = true := yd.mpr c19
      by_cases c20 : a0 = 45
      ·rw [if_pos c20] at H
       have c20b0 : (a0 == 45) = true := yc.mpr c20
       have c20b1 : (a0 != 45) = false := yf.mpr c20
       clear c20
       obtain rfl := yg H
       simp only [zH, zI] at H
       obtain ⟨rfl⟩ := H
       go_enter Tryd.func128, Tryd.ntmps128
       go_wp2
       go_ret
       exact ⟨by first | rfl | (simp; done) | (simp [*]; done), by repeat (first | exact zN _ | apply zO)⟩
      ·rw [if_neg c20] at H
       have c20b0 : (a0 == 45) = false := ye.mpr c20
       have c20b1 : (a0 != 45) = true := yd.mpr c20
       by_cases c21 : a0 = 95
       ·rw [if_pos c21] at H
        have c21b0 : (a0 == 95) = true := yc.mpr c21
        have c21b1 : (a0 != 95) = false := yf.mpr c21
        clear c21
        obtain rfl := yg H
        simp only [zH, zI] at H
        obtain ⟨rfl⟩ := H
        go_enter Tryd.func128, Tryd.ntmps128
        go_wp2
        go_ret
        exact ⟨by first | rfl | (simp; done) | (simp [*]; done), by repeat (first | exact zN _ | apply zO)⟩
       ·rw [if_neg c21] at H
        have c21b0 : (a0 == 95) = false := ye.mpr c21
        have c21b1 : (a0 != 95) = true := yd.mpr c21
        obtain rfl := yg H
        simp only [zH, zI] at H
        obtain ⟨rfl⟩ := H
        go_enter Tryd.func128, Tryd.ntmps128
        go_wp2
        go_ret
        exact ⟨by first | rfl | (simp; done) | (simp [*]; done), by repeat (first | exact zN _ | apply zO)⟩
 ·rw [if_neg c2] at H
  have c2b0 : decide (97 ≤ a0) = false := zl c2
  clear c2
  by_cases c22 : a0 ≥ 65
  ·rw [if_pos c22] at H
   have c22b0 : decide (65 ≤ a0) = true := zk c22
   clear c22
   by_cases c23 : a0 ≤ 90
   ·rw [if_pos c23] at H
    have c23b0 : decide (a0 ≤ 90) = true := zk c23
    clear c23
    obtain rfl := yg H
    simp only [zH, zI] at H
    obtain ⟨rfl⟩ := H
    go_enter Tryd.func128, Tryd.ntmps128
    go_wp2
    go_ret
    exact ⟨by first | rfl | (simp; done) | (simp [*]; done), by repeat (first | exact zN _ | apply zO)⟩
   ·rw [if_neg c23] at H
    have c23b0 : decide (a0 ≤ 90) = false := zl c23
    clear c23
    by_cases c24 : a0 ≥ 48
    ·rw [if_pos c24] at H
     have c24b0 : decide (48 ≤ a0) = true := zk c24
     clear c24
     by_cases c25 : a0 ≤ 57
     ·rw [if_pos c25] at H
      have c25b0 : decide (a0 ≤ 57) = true := zk c25
      clear c25
      obtain rfl := yg H
      simp only [zH, zI] at H
      obtain ⟨rfl⟩ := H
      go_enter Tryd.func128, Tryd.ntmps128
      go_wp2
      go_ret
      exact ⟨by first | rfl | (simp; done) | (simp [*]; done), by repeat (first | exact zN _ | apply zO)⟩
     ·rw [if_neg c25] at H
      have c25b0 : decide (a0 ≤ 57) = false := zl c25
      clear c25
      by_cases c26 : a0 = 46
      ·rw [if_pos c26] at H
       have c26b0 : (a0 == 46) = true := yc.mpr c26
       have c26b1 : (a0 != 46) = false := yf.mpr c26
       clear c26
       obtain rfl := yg H
       simp only [zH, zI] at H
       obtain ⟨rfl⟩ := H
       go_enter Tryd.func128, Tryd.ntmps128
       go_wp2
       go_ret
       exact ⟨by first | rfl | (simp; done) | (simp [*]; done), by repeat (first | exact zN _ | apply zO)⟩
      ·rw [if_neg c26] at H
       have c26b0 : (a0 == 46) = false := ye.mpr c26
       have c26b1 : (a0 != 46) = true := yd.mpr c26
       by_cases c27 : a0 = 45
       ·rw [if_pos c27] at H
        have c27b0 : (a0 == 45) = true := yc.mpr c27
        have c27b1 : (a0 != 45) = false := yf.mpr c27
        clear c27
        obtain rfl := yg H
        simp only [zH, zI] at H
        obtain ⟨rfl⟩ := H
        go_enter Tryd.func128, Tryd.ntmps128
        go_wp2
        go_ret
        exact ⟨by first | rfl | (simp; done) | (simp [*]; done), by repeat (first | exact zN _ | apply zO)⟩
       ·rw [if_neg c27] at H
        have c27b0 : (a0 == 45) = false := ye.mpr c27
        have c27b1 : (a0 != 45) = true := yd.mpr c27
        by_cases c28 : a0 = 95
        ·rw [if_pos c28] at H
         have c28b0 : (a0 == 95) = true := yc.mpr c28
         have c28b1 : (a0 != 95) = false := yf.mpr c28
         clear c28
         obtain rfl := yg H
         simp only [zH, zI] at H
         obtain ⟨rfl⟩ := H
         go_enter Tryd.func128, Tryd.ntmps128
         go_wp2
         go_ret
         exact ⟨by first | rfl | (simp; done) | (simp [*]; done), by repeat (first | exact zN _ | apply zO)⟩
        ·rw [if_neg c28] at H
         have c28b0 : (a0 == 95) = false := ye.mpr c28
         have c28b1 : (a0 != 95) = true := yd.mpr c28
         obtain rfl := yg H
         simp only [zH, zI] at H
         obtain ⟨rfl⟩ := H
         go_enter Tryd.func128, Tryd.ntmps128
         go_wp2
         go_ret
         exact ⟨by first | rfl | (simp; done) | (simp [*]; done), by repeat (first | exact zN _ | apply zO)⟩
    ·rw [if_neg c24] at H
     have c24b0 : decide (48 ≤ a0) = false := zl c24
     clear c24
     by_cases c29 : a0 = 46
     ·rw [if_pos c29] at H
      have c29b0 : (a0 == 46) = true := yc.mpr c29
      have c29b1 : (a0 != 46) = false := yf.mpr c29
      clear c29
      obtain rfl := yg H
      simp only [zH, zI] at H
      obtain ⟨rfl⟩ := H
      go_enter Tryd.func128, Tryd.ntmps128
      go_wp2
      go_ret
      exact ⟨by first | rfl | (simp; done) | (simp [*]; done), by repeat (first | exact zN _ | apply zO)⟩
     ·rw [if_neg c29] at H
      have c29b0 : (a0 == 46) = false := ye.mpr c29
      have c29b1 : (a0 != 46) = true := yd.mpr c29
      by_cases c30 : a0 = 45
      ·rw [if_pos c30] at H
       have c30b0 : (a0 == 45) = true := yc.mpr c30
       have c30b1 : (a0 != 45) = false := yf.mpr c30
       clear c30
       obtain rfl := yg H
       simp only [zH, zI] at H
       obtain ⟨rfl⟩ := H
       go_enter Tryd.func128, Tryd.ntmps128
       go_wp2
       go_ret
       exact ⟨by first | rfl | (simp; done) | (simp [*]; done), by repeat (first | exact zN _ | apply zO)⟩
      ·rw [if_neg c30] at H
       have c30b0 : (a0 == 45) = false := ye.mpr c30
       have c30b1 : (a0 != 45) = true := yd.mpr c30
       by_cases c31 : a0 = 95
       ·rw [if_pos c31] at H
        have c31b0 : (a0 == 95) = true := yc.mpr c31
        have c31b1 : (a0 != 95) = false := yf.mpr c31
        clear c31
        obtain rfl := yg H
        simp only [zH, zI] at H
        obtain ⟨rfl⟩ := H
        go_enter Tryd.func128, Tryd.ntmps128
        go_wp2
        go_ret
        exact ⟨by first | rfl | (simp; done) | (simp [*]; done), by repeat (first | exact zN _ | apply zO)⟩
       ·rw [if_neg c31] at H
        have c31b0 : (a0 == 95) = false := ye.mpr c31
        have c31b1 : (a0 != 95) = true := yd.mpr c31
        obtain rfl := yg H
        simp only [zH, zI] at H
        obtain ⟨rfl⟩ := H
        go_enter Tryd.func128, Tryd.ntmps128
        go_wp2
        go_ret
        exact ⟨by first | rfl | (simp; done) | (simp [*]; done), by repeat (first | exact zN _ | apply zO)⟩
  ·rw [if_neg c22] at H
   have c22b0 : decide (65 ≤ a0) = false := zl c22
   clear c22
   by_cases c32 : a0 ≥ 48
   ·rw [if_pos c32] at H
    have c32b0 : decide (48 ≤ a0) = true := zk c32
    clear c32
    by_cases c33 : a0 ≤ 57
    ·rw [if_pos c33] at H
     have c33b0 : decide (a0 ≤ 57) = true := zk c33
     clear c33
     obtain rfl := yg H
     simp only [zH, zI] at H
     obtain ⟨rfl⟩ := H
     go_enter Tryd.func128, Tryd.ntmps128
     go_wp2
     go_ret
     exact ⟨by first | rfl | (simp; done) | (simp [*]; done), by repeat (first | exact zN _ | apply zO)⟩
    ·rw [if_neg c33] at H
     have c33b0 : decide (a0 ≤ 57) = false := zl c33
     clear c33
     by_cases c34 : a0 = 46
     ·rw [if_pos c34] at H
      have c34b0 : (a0 == 46) = true := yc.mpr c34
      have c34b1 : (a0 != 46) = false := yf.mpr c34
      clear c34
      obtain rfl := yg H
      simp only [zH, zI] at H
      obtain ⟨rfl⟩ := H
      go_enter Tryd.func128, Tryd.ntmps128
      go_wp2
      go_ret
      exact ⟨by first | rfl | (simp; done) | (simp [*]; done), by repeat (first | exact zN _ | apply zO)⟩
     ·rw [if_neg c34] at H
      have c34b0 : (a0 == 46) = false := ye.mpr c34
      have c34b1 : (a0 != 46) = true := yd.mpr c34
      by_cases c35 : a0 = 45
      ·rw [if_pos c35] at H
       have c35b0 : (a0 == 45) = true := yc.mpr c35
       have c35b1 : (a0 != 45) = false := yf.mpr c35
       clear c35
       obtain rfl := yg H
       simp only [zH, zI] at H
       obtain ⟨rfl⟩ := H
       go_enter Tryd.func128, Tryd.ntmps128
       go_wp2
       go_ret
       exact ⟨by first | rfl | (simp; done) | (simp [*]; done), by repeat (first | exact zN _ | apply zO)⟩
      ·rw [if_neg c35] at H
       have c35b0 : (a0 == 45) = false := ye.mpr c35
       have c35b1 : (a0 != 45) = true := yd.mpr c35
       by_cases c36 : a0 = 95
       ·rw [if_pos c36] at H
        have c36b0 : (a0 == 95) = true := yc.mpr c36
        have c36b1 : (a0 != 95) = false := yf.mpr c36
        clear c36
        obtain rfl := yg H
        simp only [zH, zI] at H
        obtain ⟨rfl⟩ := H
        go_enter Tryd.func128, Tryd.ntmps128
        go_wp2
        go_ret
        exact ⟨by first | rfl | (simp; done) | (simp [*]; done), by repeat (first | exact zN _ | apply zO)⟩
       ·rw [if_neg c36] at H
        have c36b0 : (a0 == 95) = false := ye.mpr c36
        have c36b1 : (a0 != 95) = true := yd.mpr c36
        obtain rfl := yg H
        simp only [zH, zI] at H
        obtain ⟨rfl⟩ := H
        go_enter Tryd.func128, Tryd.ntmps128
        go_wp2
        go_ret
        exact ⟨by first | rfl | (simp; done) | (simp [*]; done), by repeat (first | exact zN _ | apply zO)⟩
   ·rw [if_neg c32] at H
    have c32b0 : decide (48 ≤ a0) = false := zl c32
    clear c32
    by_cases c37 : a0 = 46
    ·rw [if_pos c37] at H
     have c37b0 : (a0 == 46) = true := yc.mpr c37
     have c37b1 : (a0 != 46) = false := yf.mpr c37
     clear c37
     obtain rfl := yg H
     simp only [zH, zI] at H
     obtain ⟨rfl⟩ := H
     go_enter Tryd.func128, Tryd.ntmps128
     go_wp2
     go_ret
     exact ⟨by first | rfl | (simp; done) | (simp [*]; done), by repeat (first | exact zN _ | apply zO)⟩
    ·rw [if_neg c37] at H
     have c37b0 : (a0 == 46) = false := ye.mpr c37
     have c37b1 : (a0 != 46) = true := yd.mpr c37
     by_cases c38 : a0 = 45
     ·rw [if_pos c38] at H
      have c38b0 : (a0 == 45) = true := yc.mpr c38
      have c38b1 : (a0 != 45) = false := yf.mpr c38
      clear c38
      obtain rfl := yg H
      simp only [zH, zI] at H
      obtain ⟨rfl⟩ := H
      go_enter Tryd.func128, Tryd.ntmps128
      go_wp2
      go_ret
      exact ⟨by first | rfl | (simp; done) | (simp [*]; done), by repeat (first | exact zN _ | apply zO)⟩
     ·rw [if_neg c38] at H
      have c38b0 : (a0 == 45) = false := ye.mpr c38
      have c38b1 : (a0 != 45) = true := yd.mpr c38
      by_cases c39 : a0 = 95
      ·rw [if_pos c39] at H
       have c39b0 : (a0 == 95) = true := yc.mpr c39
       have c39b1 : (a0 != 95) = false := yf.mpr c39
       clear c39
       obtain rfl := yg H
       simp only [zH, zI] at H
       obtain ⟨rfl⟩ := H
       go_enter Tryd.func128, Tryd.ntmps128
       go_wp2
       go_ret
       exact ⟨by first | rfl | (simp; done) | (simp [*]; done), by repeat (first | exact zN _ | apply zO)⟩
      ·rw [if_neg c39] at H
       have c39b0 : (a0 == 95) = false := ye.mpr c39
       have c39b1 : (a0 != 95) = true := yd.mpr c39
       obtain rfl := yg H
       simp only [zH, zI] at H
       obtain ⟨rfl⟩ := H
       go_enter Tryd.func128, Tryd.ntmps128
       go_wp2
       go_ret
       exact ⟨by first | rfl | (simp; done) | (simp [*]; done), by repeat (first | exact zN _ | apply zO)⟩
end Go.Proofs.YtmnfjbmhlabdaaaDoor.Pr
