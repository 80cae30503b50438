-- Written by a program of the session (wip/pr.py) out of the translation; Lean checks it.
import Derived.Test.YtmnfjbmhlabdaaaDoorDXa
import Derived.Test.YtmnfjbmhlabdaaaDoorDPrx0
import Derived.Test.YtmnfjbmhlabdaaaDoorDPrx1
import Derived.Test.YtmnfjbmhlabdaaaDoorDPrx2
import Derived.Test.YtmnfjbmhlabdaaaDoorDEc
import Derived.Test.YtmnfjbmhlabdaaaDoorDEq
namespace Go.Proofs.YtmnfjbmhlabdaaaDoor.Pr
open Go.RowKit Go.Proofs.YtmnfjbmhlabdaaaDoorW.PrintWords Go.Proofs.YtmnfjbmhlabdaaaDoorW.PrintLast Go.Proofs.YtmnfjbmhlabdaaaDoorW.PrintMore
attribute [local go_sem] max2_int min2_int max_two min_two max_three min_three max_four min_four   -- for this text's walks alone
set_option linter.unusedVariables false
set_option linter.unusedSimpArgs false
/-! ### purl_Check: function 26 -/
mutual
def purl_Check.j0 : Nat → Bool → ByteArray → ByteArray → ByteArray → ByteArray → List (S64) → ByteArray → Option (Int)
 | 0, _, _, _, _, _, _, _ => none
 | k + 1, x23, x118000, x118001, x118002, x118003, x118004, x118005 => if x23 = true then (some 2) else ((purl_segments.f x118001).bind fun t126 => ((purl_pathFault.f k t126 false).bind fun t129 => (if t129 = true then (some 2) else (if x118002.toList = ([] : List UInt8) then (some 8) else ((lib_IndexByte.f x118002 47).bind fun t130 => (if t130 ≥ 0 then (some 8) else ((purl_checkQualifiers.f k x118004).bind fun t131 => (if t131 = 0 then ((purl_segments.f x118005).bind fun t132 => ((purl_pathFault.f k t132 true).bind fun t135 => (if t135 = true then (some 2) else ((some (([x118001, x118002, x118003, x118005] : List ByteArray) : List ByteArray)).bind fun y136 => (purl_Check.l0 k y136 (y136.length : Int) 0 x118000 x118001 x118002 x118003 x118004 x118005))))) else (some t131)))))))))
def purl_Check.l0 : Nat → List ByteArray → Int → Int → ByteArray → ByteArray → ByteArray → ByteArray → List (S64) → ByteArray → Option (Int)
 | 0, _, _, _, _, _, _, _, _, _ => none
 | k + 1, x75, x76, x77, x118000, x118001, x118002, x118003, x118004, x118005 => if x77 < x76 then (if 0 ≤ x77 then (if x77 < (x75.length : Int) then ((purl_control.f k (rdOf ByteArray.empty x75 x77)).bind fun t140 => (if t140 = true then (some 8) else (purl_Check.l0 k x75 x76 (wrap64 (x77 + 1)) x118000 x118001 x118002 x118003 x118004 x118005))) else (none)) else (none)) else (purl_Check.l1 k x118004 (x118004.length : Int) 0)
def purl_Check.l1 : Nat → List (S64) → Int → Int → Option (Int)
 | 0, _, _, _ => none
 | k + 1, x85, x86, x87 => if x87 < x86 then (if 0 ≤ x87 then (if x87 < (x85.length : Int) then ((purl_control.f k ((rd_T64 x85 x87).f1)).bind fun t143 => (if t143 = true then (some 8) else (purl_Check.l1 k x85 x86 (wrap64 (x87 + 1))))) else (none)) else (none)) else (some 0)
end
def purl_Check.f (k : Nat) (a0_0 : ByteArray) (a0_1 : ByteArray) (a0_2 : ByteArray) (a0_3 : ByteArray) (l0_4 : List (S64)) (a0_5 : ByteArray) : Option (Int) := (purl_Rule.f a0_0).bind fun bt118 => (if bt118.2.2.2.2.2 = 0 then ((purl_long.f k a0_0 a0_1 a0_2 a0_3 l0_4 a0_5).bind fun t125 => (if t125 = true then (some 3) else (if a0_1.toList = ([] : List UInt8) then (purl_Check.j0 k (bt118.2.1 == 3) a0_0 a0_1 a0_2 a0_3 l0_4 a0_5) else (if bt118.2.1 = 1 then (purl_Check.j0 k true a0_0 a0_1 a0_2 a0_3 l0_4 a0_5) else (purl_Check.j0 k false a0_0 a0_1 a0_2 a0_3 l0_4 a0_5))))) else (some bt118.2.2.2.2.2))
theorem purl_Check.mono_l : ∀ k, (∀ y0 y1 y2 y3 y4 y5 y6, LeO (purl_Check.j0 k y0 y1 y2 y3 y4 y5 y6) (purl_Check.j0 (k + 1) y0 y1 y2 y3 y4 y5 y6)) ∧ (∀ y0 y1 y2 y3 y4 y5 y6 y7 y8, LeO (purl_Check.l0 k y0 y1 y2 y3 y4 y5 y6 y7 y8) (purl_Check.l0 (k + 1) y0 y1 y2 y3 y4 y5 y6 y7 y8)) ∧ (∀ y0 y1 y2, LeO (purl_Check.l1 k y0 y1 y2) (purl_Check.l1 (k + 1) y0 y1 y2))
 | 0 => ⟨fun _ _ _ _ _ _ _ r h => by simp [purl_Check.j0] at h, fun _ _ _ _ _ _ _ _ _ r h => by simp [purl_Check.l0] at h, fun _ _ _ r h => by simp [purl_Check.l1] at h⟩
 | k + 1 => by
  obtain ⟨ih0, ih1, ih2⟩ := purl_Check.mono_l k
  refine ⟨?_, ?_, ?_⟩
  ·intro y0 y1 y2 y3 y4 y5 y6
   unfold purl_Check.j0
   repeat' first
   | (with_reducible exact ih0 _ _ _ _ _ _ _)
   | (with_reducible exact ih1 _ _ _ _ _ _ _ _ _)
   | (with_reducible exact ih2 _ _ _)
   | (with_reducible exact purl_checkQualifiers.mono _ _)
   | (with_reducible exact purl_control.mono _ _)
   | (with_reducible exact purl_long.mono _ _ _ _ _ _ _)
   | (with_reducible exact purl_pathFault.mono _ _ _)
   | (with_reducible exact LeO.refl _)
   | (with_reducible exact LeO.none _)
   | (with_reducible refine LeO.ite ?_ ?_)
   | (with_reducible refine LeO.bind ?_ (fun _ => ?_))
   | exact ih0 _ _ _ _ _ _ _
   | exact ih1 _ _ _ _ _ _ _ _ _
   | exact ih2 _ _ _
   | exact purl_checkQualifiers.mono _ _
   | exact purl_control.mono _ _
   | exact purl_long.mono _ _ _ _ _ _ _
   | exact purl_pathFault.mono _ _ _
   | exact LeO.none _
   | refine LeO.ite ?_ ?_
   | refine LeO.bind ?_ (fun _ => ?_)
  ·intro y0 y1 y2 y3 y4 y5 y6 y7 y8
   unfold purl_Check.l0
   repeat' first
   | (with_reducible exact ih0 _ _ _ _ _ _ _)
   | (with_reducible exact ih1 _ _ _ _ _ _ _ _ _)
   | (with_reducible exact ih2 _ _ _)
   | (with_reducible exact purl_checkQualifiers.mono _ _)
   | (with_reducible exact purl_control.mono _ _)
   | (with_reducible exact purl_long.mono _ _ _ _ _ _ _)
   | (with_reducible exact purl_pathFault.mono _ _ _)
   | (with_reducible exact LeO.refl _)
   | (with_reducible exact LeO.none _)
   | (with_reducible refine LeO.ite ?_ ?_)
   | (with_reducible refine LeO.bind ?_ (fun _ => ?_))
   | exact ih0 _ _ _ _ _ _ _
   | exact ih1 _ _ _ _ _ _ _ _ _
   | exact ih2 _ _ _
   | exact purl_checkQualifiers.mono _ _
   | exact purl_control.mono _ _
   | exact purl_long.mono _ _ _ _ _ _ _
   | exact purl_pathFault.mono _ _ _
   | exact LeO.none _
   | refine LeO.ite ?_ ?_
   | refine LeO.bind ?_ (fun _ => ?_)
  ·intro y0 y1 y2
   unfold purl_Check.l1
   repeat' first
   | (with_reducible exact ih0 _ _ _ _ _ _ _)
   | (with_reducible exact ih1 _ _ _ _ _ _ _ _ _)
   | (with_reducible exact ih2 _ _ _)
   | (with_reducible exact purl_checkQualifiers.mono _ _)
   | (with_reducible exact purl_control.mono _ _)
   | (with_reducible exact purl_long.mono _ _ _ _ _ _ _)
   | (with_reducible exact purl_pathFault.mono _ _ _)
   | (with_reducible exact LeO.refl _)
   | (with_reducible exact LeO.none _)
   | (with_reducible refine LeO.ite ?_ ?_)
   | (with_reducible refine LeO.bind ?_ (fun _ => ?_))
   | exact ih0 _ _ _ _ _ _ _
   | exact ih1 _ _ _ _ _ _ _ _ _
   | exact ih2 _ _ _
   | exact purl_checkQualifiers.mono _ _
   | exact purl_control.mono _ _
   | exact purl_long.mono _ _ _ _ _ _ _
   | exact purl_pathFault.mono _ _ _
   | exact LeO.none _
   | refine LeO.ite ?_ ?_
   | refine LeO.bind ?_ (fun _ => ?_)
theorem purl_Check.mono : ∀ a0 a1 a2 a3 a4 a5 k, LeO (purl_Check.f k a0 a1 a2 a3 a4 a5) (purl_Check.f (k + 1) a0 a1 a2 a3 a4 a5) := by
 intro a0 a1 a2 a3 a4 a5 k
 obtain ⟨ih0, ih1, ih2⟩ := purl_Check.mono_l k
 unfold purl_Check.f
 repeat' first
   | (with_reducible exact ih0 _ _ _ _ _ _ _)
   | (with_reducible exact ih1 _ _ _ _ _ _ _ _ _)
   | (with_reducible exact ih2 _ _ _)
   | (with_reducible exact purl_checkQualifiers.mono _ _)
   | (with_reducible exact purl_control.mono _ _)
   | (with_reducible exact purl_long.mono _ _ _ _ _ _ _)
   | (with_reducible exact purl_pathFault.mono _ _ _)
   | (with_reducible exact LeO.refl _)
   | (with_reducible exact LeO.none _)
   | (with_reducible refine LeO.ite ?_ ?_)
   | (with_reducible refine LeO.bind ?_ (fun _ => ?_))
   | exact ih0 _ _ _ _ _ _ _
   | exact ih1 _ _ _ _ _ _ _ _ _
   | exact ih2 _ _ _
   | exact purl_checkQualifiers.mono _ _
   | exact purl_control.mono _ _
   | exact purl_long.mono _ _ _ _ _ _ _
   | exact purl_pathFault.mono _ _ _
   | exact LeO.none _
   | refine LeO.ite ?_ ?_
   | refine LeO.bind ?_ (fun _ => ?_)
set_option maxHeartbeats 8000000 in
set_option maxRecDepth 100000 in
theorem purl_Check.calls (k : Nat) (a0_0 : ByteArray) (a0_1 : ByteArray) (a0_2 : ByteArray) (a0_3 : ByteArray) (A0_4 : Option Addr) (c0_4 : Nat) (l0_4 : List (S64)) (a0_5 : ByteArray) (r : Int) (w : World) (hr0_4 : Kd.C k64 w A0_4 l0_4.length l0_4) (hc0_4 : l0_4.length ≤ c0_4) (h : purl_Check.f k a0_0 a0_1 a0_2 a0_3 l0_4 a0_5 = some r) :
  Calls Tryd.prog 26 #[.agg #[.string a0_0, .string a0_1, .string a0_2, .string a0_3, .slice A0_4 l0_4.length c0_4, .string a0_5]] w fun e w' => e = .returned (.int .i64 r) ∧ Below w.heap.size w w' := by
 have hu24 := Tryd.underlying24
 have hu37 := Tryd.underlying37
 have hu64 := Tryd.underlying64
 have HR0_4 := Aside0.mk hr0_4
 have HC0_4 := Aside0.mk hc0_4
 clear hr0_4 hc0_4
 have HB := Aside0.mk (Below.refl w.heap.size w)
 have H : ((purl_Rule.f a0_0).bind fun bt118 => (if bt118.2.2.2.2.2 = 0 then ((purl_long.f k a0_0 a0_1 a0_2 a0_3 l0_4 a0_5).bind fun t125 => (if t125 = true then (some 3) else (if a0_1.toList = ([] : List UInt8) then (purl_Check.j0 k (bt118.2.1 == 3) a0_0 a0_1 a0_2 a0_3 l0_4 a0_5) else (if bt118.2.1 = 1 then (purl_Check.j0 k true a0_0 a0_1 a0_2 a0_3 l0_4 a0_5) else (purl_Check.j0 k false a0_0 a0_1 a0_2 a0_3 l0_4 a0_5))))) else (some bt118.2.2.2.2.2))) = some r := h
 clear h
 replace H := zu.mp H
 obtain ⟨⟨t118, t119, t120, t121, t122, t123⟩, A20, H⟩ := H
 replace H : (if t123 = 0 then ((purl_long.f k a0_0 a0_1 a0_2 a0_3 l0_4 a0_5).bind fun t125 => (if t125 = true then (some 3) else (if a0_1.toList = ([] : List UInt8) then (purl_Check.j0 k (t119 == 3) a0_0 a0_1 a0_2 a0_3 l0_4 a0_5) else (if t119 = 1 then (purl_Check.j0 k true a0_0 a0_1 a0_2 a0_3 l0_4 a0_5) else (purl_Check.j0 k false a0_0 a0_1 a0_2 a0_3 l0_4 a0_5))))) else (some t123)) = some r := H
 have A2 := Aside0.mk A20
 clear A20
 by_cases c3 : t123 = 0
 ·rw [if_pos c3] at H
  have c3b0 : (t123 == 0) = true := beq_iff_eq.mpr c3
  have c3b1 : (t123 != 0) = false := bne_eq_false_iff_eq.mpr c3
  clear c3
  replace H := zu.mp H
  obtain ⟨t125, A40, H⟩ := H
  replace H : (if t125 = true then (some 3) else (if a0_1.toList = ([] : List UInt8) then (purl_Check.j0 k (t119 == 3) a0_0 a0_1 a0_2 a0_3 l0_4 a0_5) else (if t119 = 1 then (purl_Check.j0 k true a0_0 a0_1 a0_2 a0_3 l0_4 a0_5) else (purl_Check.j0 k false a0_0 a0_1 a0_2 a0_3 l0_4 a0_5)))) = some r := H
  have A4 := Aside0.mk A40
  clear A40
  by_cases c5 : t125 = true
  ·subst c5
   have H1 : (some 3) = some r := by rw [if_pos rfl] at H; exact H
   clear H
   have H := H1
   clear H1
   obtain rfl := Option.some.inj H
   simp only [Option.some.injEq, Prod.mk.injEq] at H
   obtain ⟨rfl⟩ := H
   go_enter Tryd.func26, Tryd.ntmps26
   go_wp2_with (first | ((with_reducible refine gate_dst (N := 1) rfl ?_); refine box_event ?hg (N := 1) ?hd (cs := #[.string a0_0, .string a0_1, .string a0_2, .string a0_3, .slice A0_4 l0_4.length c0_4, .string a0_5]) (t := 24) ?hr ?_; (case hd => rfl); (case hg => rfl); (case hr => first | (go_simp; done) | (go_simp; rfl)); intro gb117 hg w6 hbox hb; have n0_ := Aside0.mk (zv (by repeat (first | (with_reducible first | exact HB.out | apply zd | apply zb | apply zc) | exact HB.out)) hb); have n1_ := Aside0.mk (hbox); have n2_ := Aside0.mk ((by rw [hg]; exact (zz (by repeat (first | (with_reducible first | exact HB.out | apply zd | apply zb | apply zc) | exact HB.out))) : w.heap.size ≤ gb117)); have n3_ := Aside0.mk ((by rw [hg]; exact (zz (by repeat (first | (with_reducible first | exact HB.out | apply zd | apply zb | apply zc) | exact HB.out))) : w.heap.size ≤ gb117)); clear HB; have HB := n0_; have BK117 := n1_; have GW117 := n2_; have GE117 := n3_; clear n0_ n1_ n2_ n3_; clear hb hbox hg; have hcz7_0 : w6.cell? ⟨gb117, 0, none⟩ = some (.string a0_0) := (ze BK117.out 0).trans rfl; have hcz7_1 : w6.cell? ⟨gb117, 1, none⟩ = some (.string a0_1) := (ze BK117.out 1).trans rfl; have hcz7_2 : w6.cell? ⟨gb117, 2, none⟩ = some (.string a0_2) := (ze BK117.out 2).trans rfl; have hcz7_3 : w6.cell? ⟨gb117, 3, none⟩ = some (.string a0_3) := (ze BK117.out 3).trans rfl; have hcz7_4 : w6.cell? ⟨gb117, 4, none⟩ = some (.slice A0_4 l0_4.length c0_4) := (ze BK117.out 4).trans rfl; have hcz7_5 : w6.cell? ⟨gb117, 5, none⟩ = some (.string a0_5) := (ze BK117.out 5).trans rfl; have hfz7_0 := za BK117.out 0; have hfz7_1 := za BK117.out 1; have hfz7_2 := za BK117.out 2; have hfz7_3 := za BK117.out 3; have hfz7_4 := za BK117.out 4; have hfz7_5 := za BK117.out 5) | ((with_reducible refine gate_callee (f := 17) rfl ?_); refine goesL_ (some 13) rfl rfl Tryd.func17 (by kernel_rfl) rfl #[.string a0_0] rfl (by (try simp only [List.map_toArray, List.map_cons, List.map_nil]); first | done | rfl | (simp only [List.length_drop, List.length_take]; rfl)) ?_; (with_reducible refine (purl_Rule.calls a0_0 t118 t119 t120 t121 t122 t123 _ A2.out).mono ?_); rintro e w8 ⟨rfl, hb⟩; refine ⟨_, rfl, ?_⟩; have n0_ := Aside0.mk (zw (g := gb117) (o := .cells #[.string a0_0, .string a0_1, .string a0_2, .string a0_3, .slice A0_4 l0_4.length c0_4, .string a0_5] 24 (0, 0)) (by (with_reducible repeat (first | refine zg ?_ _ | refine zi ?_ | refine zh ?_ _)); exact BK117.out) hb); have n1_ := Aside0.mk (zv (by repeat (first | (with_reducible first | exact HB.out | apply zd | apply zb | apply zc | refine zf ?_ GE117.out) | exact HB.out)) hb); clear BK117; clear HB; have BK117 := n0_; have HB := n1_; clear n0_ n1_; (try clear hb); (try clear hb2); (try clear hk); (try clear hi)) | ((with_reducible refine gate_dst (N := 3) rfl ?_); refine box_event ?hg (N := 3) ?hd (cs := #[.string (⟨#[]⟩ : ByteArray), .int .i64 0, .bool false, .bool false, .int .i64 0]) (t := 37) ?hr ?_; (case hd => rfl); (case hg => rfl); (case hr => first | (go_simp; done) | (go_simp; rfl)); intro gb124 hg w9 hbox hb; have n0_ := Aside0.mk (zw (g := gb117) (o := .cells #[.string a0_0, .string a0_1, .string a0_2, .string a0_3, .slice A0_4 l0_4.length c0_4, .string a0_5] 24 (0, 0)) (by (with_reducible repeat (first | refine zg ?_ _ | refine zi ?_ | refine zh ?_ _)); exact BK117.out) hb); have n1_ := Aside0.mk (zv (by repeat (first | (with_reducible first | exact HB.out | apply zd | apply zb | apply zc | refine zf ?_ GE117.out) | exact HB.out)) hb); have n2_ := Aside0.mk (hbox); have n3_ := Aside0.mk ((by rw [hg]; exact (zz (by repeat (first | (with_reducible first | exact HB.out | apply zd | apply zb | apply zc | refine zf ?_ GE117.out) | exact HB.out))) : w.heap.size ≤ gb124)); have n4_ := Aside0.mk ((by rw [hg]; exact (zz (by repeat (first | (with_reducible first | exact HB.out | apply zd | apply zb | apply zc | refine zf ?_ GE117.out) | exact HB.out))) : w.heap.size ≤ gb124)); have n5_ := Aside0.mk ((by rw [hg]; exact Nat.ne_of_lt (zA (g := gb117) (o := .cells #[.string a0_0, .string a0_1, .string a0_2, .string a0_3, .slice A0_4 l0_4.length c0_4, .string a0_5] 24 (0, 0)) (by (with_reducible repeat (first | refine zg ?_ _ | refine zi ?_ | refine zh ?_ _)); exact BK117.out)) : gb117 ≠ gb124)); have n6_ := Aside0.mk ((by rw [hg]; exact Nat.ne_of_gt (zA (g := gb117) (o := .cells #[.string a0_0, .string a0_1, .string a0_2, .string a0_3, .slice A0_4 l0_4.length c0_4, .string a0_5] 24 (0, 0)) (by (with_reducible repeat (first | refine zg ?_ _ | refine zi ?_ | refine zh ?_ _)); exact BK117.out)) : gb124 ≠ gb117)); clear BK117; clear HB; have BK117 := n0_; have HB := n1_; have BK124 := n2_; have GW124 := n3_; have GE124 := n4_; have NB117_124 := n5_; have NB124_117 := n6_; clear n0_ n1_ n2_ n3_ n4_ n5_ n6_; clear hb hbox hg; have hnb10 := NB124_117.out; have hnc10 := NB117_124.out; have hcz11_0 : w9.cell? ⟨gb124, 0, none⟩ = some (.string (⟨#[]⟩ : ByteArray)) := (ze BK124.out 0).trans rfl; have hcz11_1 : w9.cell? ⟨gb124, 1, none⟩ = some (.int .i64 0) := (ze BK124.out 1).trans rfl; have hcz11_2 : w9.cell? ⟨gb124, 2, none⟩ = some (.bool false) := (ze BK124.out 2).trans rfl; have hcz11_3 : w9.cell? ⟨gb124, 3, none⟩ = some (.bool false) := (ze BK124.out 3).trans rfl; have hcz11_4 : w9.cell? ⟨gb124, 4, none⟩ = some (.int .i64 0) := (ze BK124.out 4).trans rfl; have hfz11_0 := za BK124.out 0; have hfz11_1 := za BK124.out 1; have hfz11_2 := za BK124.out 2; have hfz11_3 := za BK124.out 3; have hfz11_4 := za BK124.out 4; have hcz12_0 : w9.cell? ⟨gb117, 0, none⟩ = some (.string a0_0) := (ze BK117.out 0).trans rfl; have hcz12_1 : w9.cell? ⟨gb117, 1, none⟩ = some (.string a0_1) := (ze BK117.out 1).trans rfl; have hcz12_2 : w9.cell? ⟨gb117, 2, none⟩ = some (.string a0_2) := (ze BK117.out 2).trans rfl; have hcz12_3 : w9.cell? ⟨gb117, 3, none⟩ = some (.string a0_3) := (ze BK117.out 3).trans rfl; have hcz12_4 : w9.cell? ⟨gb117, 4, none⟩ = some (.slice A0_4 l0_4.length c0_4) := (ze BK117.out 4).trans rfl; have hcz12_5 : w9.cell? ⟨gb117, 5, none⟩ = some (.string a0_5) := (ze BK117.out 5).trans rfl; have hfz12_0 := za BK117.out 0; have hfz12_1 := za BK117.out 1; have hfz12_2 := za BK117.out 2; have hfz12_3 := za BK117.out 3; have hfz12_4 := za BK117.out 4; have hfz12_5 := za BK117.out 5) | ((with_reducible refine gate_callee (f := 66) rfl ?_); refine goesL_ (some 22) rfl rfl Tryd.func66 (by kernel_rfl) rfl #[.agg #[.string a0_0, .string a0_1, .string a0_2, .string a0_3, .slice A0_4 l0_4.length c0_4, .string a0_5]] rfl (by (try simp only [List.map_toArray, List.map_cons, List.map_nil]); first | done | rfl | (simp only [List.length_drop, List.length_take]; rfl)) ?_; (with_reducible refine (purl_long.calls k a0_0 a0_1 a0_2 a0_3 _ _ l0_4 a0_5 true _ ?side1 ?side2 A4.out).mono ?_); (case side1 => exact Kd.C_below HR0_4.out (by repeat (first | (with_reducible first | exact HB.out | apply zd | apply zb | apply zc | refine zf ?_ GE117.out | refine zf ?_ GE124.out) | exact HB.out))); (case side2 => exact HC0_4.out); rintro e w13 ⟨rfl, hb⟩; refine ⟨_, rfl, ?_⟩; have n0_ := Aside0.mk (zw (g := gb117) (o := .cells #[.string a0_0, .string a0_1, .string a0_2, .string a0_3, .slice A0_4 l0_4.length c0_4, .string a0_5] 24 (0, 0)) (by (with_reducible repeat (first | refine zg ?_ _ | refine zi ?_ | refine zh ?_ _)); refine zx ?_ NB117_124.out _; (with_reducible repeat (first | refine zg ?_ _ | refine zi ?_ | refine zh ?_ _)); refine zx ?_ NB117_124.out _; (with_reducible repeat (first | refine zg ?_ _ | refine zi ?_ | refine zh ?_ _)); refine zx ?_ NB117_124.out _; (with_reducible repeat (first | refine zg ?_ _ | refine zi ?_ | refine zh ?_ _)); refine zx ?_ NB117_124.out _; (with_reducible repeat (first | refine zg ?_ _ | refine zi ?_ | refine zh ?_ _)); refine zx ?_ NB117_124.out _; (with_reducible repeat (first | refine zg ?_ _ | refine zi ?_ | refine zh ?_ _)); exact BK117.out) hb); have n1_ := Aside0.mk (zw (g := gb124) (o := .cells #[.string t118, .int .i64 t119, .bool t120, .bool t121, .int .i64 t122] 37 (0, 0)) (by (with_reducible repeat (first | refine zg ?_ _ | refine zi ?_ | refine zh ?_ _)); refine zy (cs := #[.string t118, .int .i64 t119, .bool t120, .bool t121, .int .i64 0]) ?_ 4 _ rfl; (with_reducible repeat (first | refine zg ?_ _ | refine zi ?_ | refine zh ?_ _)); refine zy (cs := #[.string t118, .int .i64 t119, .bool t120, .bool false, .int .i64 0]) ?_ 3 _ rfl; (with_reducible repeat (first | refine zg ?_ _ | refine zi ?_ | refine zh ?_ _)); refine zy (cs := #[.string t118, .int .i64 t119, .bool false, .bool false, .int .i64 0]) ?_ 2 _ rfl; (with_reducible repeat (first | refine zg ?_ _ | refine zi ?_ | refine zh ?_ _)); refine zy (cs := #[.string t118, .int .i64 0, .bool false, .bool false, .int .i64 0]) ?_ 1 _ rfl; (with_reducible repeat (first | refine zg ?_ _ | refine zi ?_ | refine zh ?_ _)); refine zy (cs := #[.string (⟨#[]⟩ : ByteArray), .int .i64 0, .bool false, .bool false, .int .i64 0]) ?_ 0 _ rfl; (with_reducible repeat (first | refine zg ?_ _ | refine zi ?_ | refine zh ?_ _)); exact BK124.out) hb); have n2_ := Aside0.mk (zv (by repeat (first | (with_reducible first | exact HB.out | apply zd | apply zb | apply zc | refine zf ?_ GE117.out | refine zf ?_ GE124.out) | exact HB.out)) hb); clear BK117; clear BK124; clear HB; have BK117 := n0_; have BK124 := n1_; have HB := n2_; clear n0_ n1_ n2_; (try clear hb); (try clear hb2); (try clear hk); (try clear hi)))
   go_ret
   exact ⟨by first | rfl | (simp [errW_none, errW_some] <;> rfl) | (simp [*, errW_none, errW_some] <;> rfl), by repeat (first | (with_reducible first | exact HB.out | apply zd | apply zb | apply zc | refine zf ?_ GE117.out | refine zf ?_ GE124.out) | exact HB.out)⟩
  ·replace c5 := Bool.eq_false_iff.mpr c5
   subst c5
   have H1 : (if a0_1.toList = ([] : List UInt8) then (purl_Check.j0 k (t119 == 3) a0_0 a0_1 a0_2 a0_3 l0_4 a0_5) else (if t119 = 1 then (purl_Check.j0 k true a0_0 a0_1 a0_2 a0_3 l0_4 a0_5) else (purl_Check.j0 k false a0_0 a0_1 a0_2 a0_3 l0_4 a0_5))) = some r := by rw [if_neg (show ¬ (false = true) by decide)] at H; exact H
   clear H
   have H := H1
   clear H1
   have HC14 := Aside0.mk H
   clear H
   go_enter Tryd.func26, Tryd.ntmps26
   go_upto_region 6 with (first | ((with_reducible refine gate_dst (N := 1) rfl ?_); refine box_event ?hg (N := 1) ?hd (cs := #[.string a0_0, .string a0_1, .string a0_2, .string a0_3, .slice A0_4 l0_4.length c0_4, .string a0_5]) (t := 24) ?hr ?_; (case hd => rfl); (case hg => rfl); (case hr => first | (go_simp; done) | (go_simp; rfl)); intro gb117 hg w15 hbox hb; have n0_ := Aside0.mk (zv (by repeat (first | (with_reducible first | exact HB.out | apply zd | apply zb | apply zc) | exact HB.out)) hb); have n1_ := Aside0.mk (hbox); have n2_ := Aside0.mk ((by rw [hg]; exact (zz (by repeat (first | (with_reducible first | exact HB.out | apply zd | apply zb | apply zc) | exact HB.out))) : w.heap.size ≤ gb117)); have n3_ := Aside0.mk ((by rw [hg]; exact (zz (by repeat (first | (with_reducible first | exact HB.out | apply zd | apply zb | apply zc) | exact HB.out))) : w.heap.size ≤ gb117)); clear HB; have HB := n0_; have BK117 := n1_; have GW117 := n2_; have GE117 := n3_; clear n0_ n1_ n2_ n3_; clear hb hbox hg; have hcz16_0 : w15.cell? ⟨gb117, 0, none⟩ = some (.string a0_0) := (ze BK117.out 0).trans rfl; have hcz16_1 : w15.cell? ⟨gb117, 1, none⟩ = some (.string a0_1) := (ze BK117.out 1).trans rfl; have hcz16_2 : w15.cell? ⟨gb117, 2, none⟩ = some (.string a0_2) := (ze BK117.out 2).trans rfl; have hcz16_3 : w15.cell? ⟨gb117, 3, none⟩ = some (.string a0_3) := (ze BK117.out 3).trans rfl; have hcz16_4 : w15.cell? ⟨gb117, 4, none⟩ = some (.slice A0_4 l0_4.length c0_4) := (ze BK117.out 4).trans rfl; have hcz16_5 : w15.cell? ⟨gb117, 5, none⟩ = some (.string a0_5) := (ze BK117.out 5).trans rfl; have hfz16_0 := za BK117.out 0; have hfz16_1 := za BK117.out 1; have hfz16_2 := za BK117.out 2; have hfz16_3 := za BK117.out 3; have hfz16_4 := za BK117.out 4; have hfz16_5 := za BK117.out 5) | ((with_reducible refine gate_callee (f := 17) rfl ?_); refine goesL_ (some 13) rfl rfl Tryd.func17 (by kernel_rfl) rfl #[.string a0_0] rfl (by (try simp only [List.map_toArray, List.map_cons, List.map_nil]); first | done | rfl | (simp only [List.length_drop, List.length_take]; rfl)) ?_; (with_reducible refine (purl_Rule.calls a0_0 t118 t119 t120 t121 t122 t123 _ A2.out).mono ?_); rintro e w17 ⟨rfl, hb⟩; refine ⟨_, rfl, ?_⟩; have n0_ := Aside0.mk (zw (g := gb117) (o := .cells #[.string a0_0, .string a0_1, .string a0_2, .string a0_3, .slice A0_4 l0_4.length c0_4, .string a0_5] 24 (0, 0)) (by (with_reducible repeat (first | refine zg ?_ _ | refine zi ?_ | refine zh ?_ _)); exact BK117.out) hb); have n1_ := Aside0.mk (zv (by repeat (first | (with_reducible first | exact HB.out | apply zd | apply zb | apply zc | refine zf ?_ GE117.out) | exact HB.out)) hb); clear BK117; clear HB; have BK117 := n0_; have HB := n1_; clear n0_ n1_; (try clear hb); (try clear hb2); (try clear hk); (try clear hi)) | ((with_reducible refine gate_dst (N := 3) rfl ?_); refine box_event ?hg (N := 3) ?hd (cs := #[.string (⟨#[]⟩ : ByteArray), .int .i64 0, .bool false, .bool false, .int .i64 0]) (t := 37) ?hr ?_; (case hd => rfl); (case hg => rfl); (case hr => first | (go_simp; done) | (go_simp; rfl)); intro gb124 hg w18 hbox hb; have n0_ := Aside0.mk (zw (g := gb117) (o := .cells #[.string a0_0, .string a0_1, .string a0_2, .string a0_3, .slice A0_4 l0_4.length c0_4, .string a0_5] 24 (0, 0)) (by (with_reducible repeat (first | refine zg ?_ _ | refine zi ?_ | refine zh ?_ _)); exact BK117.out) hb); have n1_ := Aside0.mk (zv (by repeat (first | (with_reducible first | exact HB.out | apply zd | apply zb | apply zc | refine zf ?_ GE117.out) | exact HB.out)) hb); have n2_ := Aside0.mk (hbox); have n3_ := Aside0.mk ((by rw [hg]; exact (zz (by repeat (first | (with_reducible first | exact HB.out | apply zd | apply zb | apply zc | refine zf ?_ GE117.out) | exact HB.out))) : w.heap.size ≤ gb124)); have n4_ := Aside0.mk ((by rw [hg]; exact (zz (by repeat (first | (with_reducible first | exact HB.out | apply zd | apply zb | apply zc | refine zf ?_ GE117.out) | exact HB.out))) : w.heap.size ≤ gb124)); have n5_ := Aside0.mk ((by rw [hg]; exact Nat.ne_of_lt (zA (g := gb117) (o := .cells #[.string a0_0, .string a0_1, .string a0_2, .string a0_3, .slice A0_4 l0_4.length c0_4, .string a0_5] 24 (0, 0)) (by (with_reducible repeat (first | refine zg ?_ _ | refine zi ?_ | refine zh ?_ _)); exact BK117.out)) : gb117 ≠ gb124)); have n6_ := Aside0.mk ((by rw [hg]; exact Nat.ne_of_gt (zA (g := gb117) (o := .cells #[.string a0_0, .string a0_1, .string a0_2, .string a0_3, .slice A0_4 l0_4.length c0_4, .string a0_5] 24 (0, 0)) (by (with_reducible repeat (first | refine zg ?_ _ | refine zi ?_ | refine zh ?_ _)); exact BK117.out)) : gb124 ≠ gb117)); clear BK117; clear HB; have BK117 := n0_; have HB := n1_; have BK124 := n2_; have GW124 := n3_; have GE124 := n4_; have NB117_124 := n5_; have NB124_117 := n6_; clear n0_ n1_ n2_ n3_ n4_ n5_ n6_; clear hb hbox hg; have hnb19 := NB124_117.out; have hnc19 := NB117_124.out; have hcz20_0 : w18.cell? ⟨gb124, 0, none⟩ = some (.string (⟨#[]⟩ : ByteArray)) := (ze BK124.out 0).trans rfl; have hcz20_1 : w18.cell? ⟨gb124, 1, none⟩ = some (.int .i64 0) := (ze BK124.out 1).trans rfl; have hcz20_2 : w18.cell? ⟨gb124, 2, none⟩ = some (.bool false) := (ze BK124.out 2).trans rfl; have hcz20_3 : w18.cell? ⟨gb124, 3, none⟩ = some (.bool false) := (ze BK124.out 3).trans rfl; have hcz20_4 : w18.cell? ⟨gb124, 4, none⟩ = some (.int .i64 0) := (ze BK124.out 4).trans rfl; have hfz20_0 := za BK124.out 0; have hfz20_1 := za BK124.out 1; have hfz20_2 := za BK124.out 2; have hfz20_3 := za BK124.out 3; have hfz20_4 := za BK124.out 4; have hcz21_0 : w18.cell? ⟨gb117, 0, none⟩ = some (.string a0_0) := (ze BK117.out 0).trans rfl; have hcz21_1 : w18.cell? ⟨gb117, 1, none⟩ = some (.string a0_1) := (ze BK117.out 1).trans rfl; have hcz21_2 : w18.cell? ⟨gb117, 2, none⟩ = some (.string a0_2) := (ze BK117.out 2).trans rfl; have hcz21_3 : w18.cell? ⟨gb117, 3, none⟩ = some (.string a0_3) := (ze BK117.out 3).trans rfl; have hcz21_4 : w18.cell? ⟨gb117, 4, none⟩ = some (.slice A0_4 l0_4.length c0_4) := (ze BK117.out 4).trans rfl; have hcz21_5 : w18.cell? ⟨gb117, 5, none⟩ = some (.string a0_5) := (ze BK117.out 5).trans rfl; have hfz21_0 := za BK117.out 0; have hfz21_1 := za BK117.out 1; have hfz21_2 := za BK117.out 2; have hfz21_3 := za BK117.out 3; have hfz21_4 := za BK117.out 4; have hfz21_5 := za BK117.out 5) | ((with_reducible refine gate_callee (f := 66) rfl ?_); refine goesL_ (some 22) rfl rfl Tryd.func66 (by kernel_rfl) rfl #[.agg #[.string a0_0, .string a0_1, .string a0_2, .string a0_3, .slice A0_4 l0_4.length c0_4, .string a0_5]] rfl (by (try simp only [List.map_toArray, List.map_cons, List.map_nil]); first | done | rfl | (simp only [List.length_drop, List.length_take]; rfl)) ?_; (with_reducible refine (purl_long.calls k a0_0 a0_1 a0_2 a0_3 _ _ l0_4 a0_5 false _ ?side1 ?side2 A4.out).mono ?_); (case side1 => exact Kd.C_below HR0_4.out (by repeat (first | (with_reducible first | exact HB.out | apply zd | apply zb | apply zc | refine zf ?_ GE117.out | refine zf ?_ GE124.out) | exact HB.out))); (case side2 => exact HC0_4.out); rintro e w22 ⟨rfl, hb⟩; refine ⟨_, rfl, ?_⟩; have n0_ := Aside0.mk (zw (g := gb117) (o := .cells #[.string a0_0, .string a0_1, .string a0_2, .string a0_3, .slice A0_4 l0_4.length c0_4, .string a0_5] 24 (0, 0)) (by (with_reducible repeat (first | refine zg ?_ _ | refine zi ?_ | refine zh ?_ _)); refine zx ?_ NB117_124.out _; (with_reducible repeat (first | refine zg ?_ _ | refine zi ?_ | refine zh ?_ _)); refine zx ?_ NB117_124.out _; (with_reducible repeat (first | refine zg ?_ _ | refine zi ?_ | refine zh ?_ _)); refine zx ?_ NB117_124.out _; (with_reducible repeat (first | refine zg ?_ _ | refine zi ?_ | refine zh ?_ _)); refine zx ?_ NB117_124.out _; (with_reducible repeat (first | refine zg ?_ _ | refine zi ?_ | refine zh ?_ _)); refine zx ?_ NB117_124.out _; (with_reducible repeat (first | refine zg ?_ _ | refine zi ?_ | refine zh ?_ _)); exact BK117.out) hb); have n1_ := Aside0.mk (zw (g := gb124) (o := .cells #[.string t118, .int .i64 t119, .bool t120, .bool t121, .int .i64 t122] 37 (0, 0)) (by (with_reducible repeat (first | refine zg ?_ _ | refine zi ?_ | refine zh ?_ _)); refine zy (cs := #[.string t118, .int .i64 t119, .bool t120, .bool t121, .int .i64 0]) ?_ 4 _ rfl; (with_reducible repeat (first | refine zg ?_ _ | refine zi ?_ | refine zh ?_ _)); refine zy (cs := #[.string t118, .int .i64 t119, .bool t120, .bool false, .int .i64 0]) ?_ 3 _ rfl; (with_reducible repeat (first | refine zg ?_ _ | refine zi ?_ | refine zh ?_ _)); refine zy (cs := #[.string t118, .int .i64 t119, .bool false, .bool false, .int .i64 0]) ?_ 2 _ rfl; (with_reducible repeat (first | refine zg ?_ _ | refine zi ?_ | refine zh ?_ _)); refine zy (cs := #[.string t118, .int .i64 0, .bool false, .bool false, .int .i64 0]) ?_ 1 _ rfl; (with_reducible repeat (first | refine zg ?_ _ | refine zi ?_ | refine zh ?_ _)); refine zy (cs := #[.string (⟨#[]⟩ : ByteArray), .int .i64 0, .bool false, .bool false, .int .i64 0]) ?_ 0 _ rfl; (with_reducible repeat (first | refine zg ?_ _ | refine zi ?_ | refine zh ?_ _)); exact BK124.out) hb); have n2_ := Aside0.mk (zv (by repeat (first | (with_reducible first | exact HB.out | apply zd | apply zb | apply zc | refine zf ?_ GE117.out | refine zf ?_ GE124.out) | exact HB.out)) hb); clear BK117; clear BK124; clear HB; have BK117 := n0_; have BK124 := n1_; have HB := n2_; clear n0_ n1_ n2_; (try clear hb); (try clear hb2); (try clear hk); (try clear hi)))
   (try simp only [Act.put, List.setIfInBounds_toArray, List.set_cons_zero, List.set_cons_succ])
   go_cut [23] (fun v23 wc => ∃ (kq : Nat) (x23_13 : Bool), v23 = .bool x23_13 ∧ Aside0 (purl_Check.j0 kq x23_13 a0_0 a0_1 a0_2 a0_3 l0_4 a0_5 = some r) ∧ Aside0 (kq ≤ k) ∧ Aside0 (wc.heap[gb117]? = some (.cells #[.string a0_0, .string a0_1, .string a0_2, .string a0_3, (.slice A0_4 l0_4.length c0_4), .string a0_5] 24 (0, 0))) ∧ Aside0 (wc.heap[gb124]? = some (.cells #[.string t118, .int .i64 t119, .bool t120, .bool t121, .int .i64 t122] 37 (0, 0))) ∧ Aside0 (Below w.heap.size w wc))
   case first =>
    have H := HC14.out
    clear HC14
    by_cases c23 : a0_1.toList = ([] : List UInt8)
    ·rw [if_pos c23] at H
     have c23b0 : (a0_1.toList == ([] : List UInt8)) = true := beq_iff_eq.mpr c23
     have c23b1 : (a0_1.toList != ([] : List UInt8)) = false := bne_eq_false_iff_eq.mpr c23
     clear c23
     (first | rw [c23b0] | (simp only [i64_w, i32_w]; rw [c23b0]) | skip)
     have H' := Aside0.mk H
     clear H
     have hnb24 := NB117_124.out
     have hnc24 := NB124_117.out
     have hcz25_0 : w22.cell? ⟨gb117, 0, none⟩ = some (.string a0_0) := (ze BK117.out 0).trans rfl
     have hcz25_1 : w22.cell? ⟨gb117, 1, none⟩ = some (.string a0_1) := (ze BK117.out 1).trans rfl
     have hcz25_2 : w22.cell? ⟨gb117, 2, none⟩ = some (.string a0_2) := (ze BK117.out 2).trans rfl
     have hcz25_3 : w22.cell? ⟨gb117, 3, none⟩ = some (.string a0_3) := (ze BK117.out 3).trans rfl
     have hcz25_4 : w22.cell? ⟨gb117, 4, none⟩ = some (.slice A0_4 l0_4.length c0_4) := (ze BK117.out 4).trans rfl
     have hcz25_5 : w22.cell? ⟨gb117, 5, none⟩ = some (.string a0_5) := (ze BK117.out 5).trans rfl
     have hfz25_0 := za BK117.out 0
     have hfz25_1 := za BK117.out 1
     have hfz25_2 := za BK117.out 2
     have hfz25_3 := za BK117.out 3
     have hfz25_4 := za BK117.out 4
     have hfz25_5 := za BK117.out 5
     have hcz26_0 : w22.cell? ⟨gb124, 0, none⟩ = some (.string t118) := (ze BK124.out 0).trans rfl
     have hcz26_1 : w22.cell? ⟨gb124, 1, none⟩ = some (.int .i64 t119) := (ze BK124.out 1).trans rfl
     have hcz26_2 : w22.cell? ⟨gb124, 2, none⟩ = some (.bool t120) := (ze BK124.out 2).trans rfl
     have hcz26_3 : w22.cell? ⟨gb124, 3, none⟩ = some (.bool t121) := (ze BK124.out 3).trans rfl
     have hcz26_4 : w22.cell? ⟨gb124, 4, none⟩ = some (.int .i64 t122) := (ze BK124.out 4).trans rfl
     have hfz26_0 := za BK124.out 0
     have hfz26_1 := za BK124.out 1
     have hfz26_2 := za BK124.out 2
     have hfz26_3 := za BK124.out 3
     have hfz26_4 := za BK124.out 4
     go_wp2
     go_meet
     case rel => exact ⟨_, ((t119 == 3)), (by first | rfl | (simp; done) | (simp [*]; done)), H', ⟨by first | omega | exact Nat.le_refl _⟩, ⟨by (with_reducible repeat (first | refine zg ?_ _ | refine zi ?_ | refine zh ?_ _)); exact BK117.out⟩, ⟨by (with_reducible repeat (first | refine zg ?_ _ | refine zi ?_ | refine zh ?_ _)); exact BK124.out⟩, ⟨by repeat (first | (with_reducible first | exact HB.out | apply zd | apply zb | apply zc | refine zf ?_ GE117.out | refine zf ?_ GE124.out) | exact HB.out)⟩⟩
    ·rw [if_neg c23] at H
     have c23b0 : (a0_1.toList == ([] : List UInt8)) = false := beq_eq_false_iff_ne.mpr c23
     have c23b1 : (a0_1.toList != ([] : List UInt8)) = true := bne_iff_ne.mpr c23
     (first | rw [c23b0] | (simp only [i64_w, i32_w]; rw [c23b0]) | skip)
     by_cases c27 : t119 = 1
     ·rw [if_pos c27] at H
      have c27b0 : (t119 == 1) = true := beq_iff_eq.mpr c27
      have c27b1 : (t119 != 1) = false := bne_eq_false_iff_eq.mpr c27
      clear c27
      have H' := Aside0.mk H
      clear H
      have hnb28 := NB117_124.out
      have hnc28 := NB124_117.out
      have hcz29_0 : w22.cell? ⟨gb117, 0, none⟩ = some (.string a0_0) := (ze BK117.out 0).trans rfl
      have hcz29_1 : w22.cell? ⟨gb117, 1, none⟩ = some (.string a0_1) := (ze BK117.out 1).trans rfl
      have hcz29_2 : w22.cell? ⟨gb117, 2, none⟩ = some (.string a0_2) := (ze BK117.out 2).trans rfl
      have hcz29_3 : w22.cell? ⟨gb117, 3, none⟩ = some (.string a0_3) := (ze BK117.out 3).trans rfl
      have hcz29_4 : w22.cell? ⟨gb117, 4, none⟩ = some (.slice A0_4 l0_4.length c0_4) := (ze BK117.out 4).trans rfl
      have hcz29_5 : w22.cell? ⟨gb117, 5, none⟩ = some (.string a0_5) := (ze BK117.out 5).trans rfl
      have hfz29_0 := za BK117.out 0
      have hfz29_1 := za BK117.out 1
      have hfz29_2 := za BK117.out 2
      have hfz29_3 := za BK117.out 3
      have hfz29_4 := za BK117.out 4
      have hfz29_5 := za BK117.out 5
      have hcz30_0 : w22.cell? ⟨gb124, 0, none⟩ = some (.string t118) := (ze BK124.out 0).trans rfl
      have hcz30_1 : w22.cell? ⟨gb124, 1, none⟩ = some (.int .i64 t119) := (ze BK124.out 1).trans rfl
      have hcz30_2 : w22.cell? ⟨gb124, 2, none⟩ = some (.bool t120) := (ze BK124.out 2).trans rfl
      have hcz30_3 : w22.cell? ⟨gb124, 3, none⟩ = some (.bool t121) := (ze BK124.out 3).trans rfl
      have hcz30_4 : w22.cell? ⟨gb124, 4, none⟩ = some (.int .i64 t122) := (ze BK124.out 4).trans rfl
      have hfz30_0 := za BK124.out 0
      have hfz30_1 := za BK124.out 1
      have hfz30_2 := za BK124.out 2
      have hfz30_3 := za BK124.out 3
      have hfz30_4 := za BK124.out 4
      go_wp2
      go_meet
      case rel => exact ⟨_, (true), (by first | rfl | (simp; done) | (simp [*]; done)), H', ⟨by first | omega | exact Nat.le_refl _⟩, ⟨by (with_reducible repeat (first | refine zg ?_ _ | refine zi ?_ | refine zh ?_ _)); exact BK117.out⟩, ⟨by (with_reducible repeat (first | refine zg ?_ _ | refine zi ?_ | refine zh ?_ _)); exact BK124.out⟩, ⟨by repeat (first | (with_reducible first | exact HB.out | apply zd | apply zb | apply zc | refine zf ?_ GE117.out | refine zf ?_ GE124.out) | exact HB.out)⟩⟩
     ·rw [if_neg c27] at H
      have c27b0 : (t119 == 1) = false := beq_eq_false_iff_ne.mpr c27
      have c27b1 : (t119 != 1) = true := bne_iff_ne.mpr c27
      have H' := Aside0.mk H
      clear H
      have hnb31 := NB117_124.out
      have hnc31 := NB124_117.out
      have hcz32_0 : w22.cell? ⟨gb117, 0, none⟩ = some (.string a0_0) := (ze BK117.out 0).trans rfl
      have hcz32_1 : w22.cell? ⟨gb117, 1, none⟩ = some (.string a0_1) := (ze BK117.out 1).trans rfl
      have hcz32_2 : w22.cell? ⟨gb117, 2, none⟩ = some (.string a0_2) := (ze BK117.out 2).trans rfl
      have hcz32_3 : w22.cell? ⟨gb117, 3, none⟩ = some (.string a0_3) := (ze BK117.out 3).trans rfl
      have hcz32_4 : w22.cell? ⟨gb117, 4, none⟩ = some (.slice A0_4 l0_4.length c0_4) := (ze BK117.out 4).trans rfl
      have hcz32_5 : w22.cell? ⟨gb117, 5, none⟩ = some (.string a0_5) := (ze BK117.out 5).trans rfl
      have hfz32_0 := za BK117.out 0
      have hfz32_1 := za BK117.out 1
      have hfz32_2 := za BK117.out 2
      have hfz32_3 := za BK117.out 3
      have hfz32_4 := za BK117.out 4
      have hfz32_5 := za BK117.out 5
      have hcz33_0 : w22.cell? ⟨gb124, 0, none⟩ = some (.string t118) := (ze BK124.out 0).trans rfl
      have hcz33_1 : w22.cell? ⟨gb124, 1, none⟩ = some (.int .i64 t119) := (ze BK124.out 1).trans rfl
      have hcz33_2 : w22.cell? ⟨gb124, 2, none⟩ = some (.bool t120) := (ze BK124.out 2).trans rfl
      have hcz33_3 : w22.cell? ⟨gb124, 3, none⟩ = some (.bool t121) := (ze BK124.out 3).trans rfl
      have hcz33_4 : w22.cell? ⟨gb124, 4, none⟩ = some (.int .i64 t122) := (ze BK124.out 4).trans rfl
      have hfz33_0 := za BK124.out 0
      have hfz33_1 := za BK124.out 1
      have hfz33_2 := za BK124.out 2
      have hfz33_3 := za BK124.out 3
      have hfz33_4 := za BK124.out 4
      go_wp2
      go_meet
      case rel => exact ⟨_, (false), (by first | rfl | (simp; done) | (simp [*]; done)), H', ⟨by first | omega | exact Nat.le_refl _⟩, ⟨by (with_reducible repeat (first | refine zg ?_ _ | refine zi ?_ | refine zh ?_ _)); exact BK117.out⟩, ⟨by (with_reducible repeat (first | refine zg ?_ _ | refine zi ?_ | refine zh ?_ _)); exact BK124.out⟩, ⟨by repeat (first | (with_reducible first | exact HB.out | apply zd | apply zb | apply zc | refine zf ?_ GE117.out | refine zf ?_ GE124.out) | exact HB.out)⟩⟩
   case rest =>
    clear HC14
    try clear c1
    try clear c2
    try clear p2
    try clear c3
    try clear c3b0
    try clear c3b1
    try clear c5
    try clear c6
    try clear c10
    try clear c17
    try clear c19
    try clear c23
    try clear c23b0
    try clear c23b1
    try clear c24
    try clear c26
    try clear c27
    try clear c27b0
    try clear c27b1
    try clear c28
    try clear c31
    try clear hcz11_0
    try clear hcz11_1
    try clear hcz11_2
    try clear hcz11_3
    try clear hcz11_4
    try clear hcz12_0
    try clear hcz12_1
    try clear hcz12_2
    try clear hcz12_3
    try clear hcz12_4
    try clear hcz12_5
    try clear hcz16_0
    try clear hcz16_1
    try clear hcz16_2
    try clear hcz16_3
    try clear hcz16_4
    try clear hcz16_5
    try clear hcz20_0
    try clear hcz20_1
    try clear hcz20_2
    try clear hcz20_3
    try clear hcz20_4
    try clear hcz21_0
    try clear hcz21_1
    try clear hcz21_2
    try clear hcz21_3
    try clear hcz21_4
    try clear hcz21_5
    try clear hcz25_0
    try clear hcz25_1
    try clear hcz25_2
    try clear hcz25_3
    try clear hcz25_4
    try clear hcz25_5
    try clear hcz26_0
    try clear hcz26_1
    try clear hcz26_2
    try clear hcz26_3
    try clear hcz26_4
    try clear hcz29_0
    try clear hcz29_1
    try clear hcz29_2
    try clear hcz29_3
    try clear hcz29_4
    try clear hcz29_5
    try clear hcz30_0
    try clear hcz30_1
    try clear hcz30_2
    try clear hcz30_3
    try clear hcz30_4
    try clear hcz32_0
    try clear hcz32_1
    try clear hcz32_2
    try clear hcz32_3
    try clear hcz32_4
    try clear hcz32_5
    try clear hcz33_0
    try clear hcz33_1
    try clear hcz33_2
    try clear hcz33_3
    try clear hcz33_4
    try clear hcz7_0
    try clear hcz7_1
    try clear hcz7_2
    try clear hcz7_3
    try clear hcz7_4
    try clear hcz7_5
    try clear hfz11_0
    try clear hfz11_1
    try clear hfz11_2
    try clear hfz11_3
    try clear hfz11_4
    try clear hfz12_0
    try clear hfz12_1
    try clear hfz12_2
    try clear hfz12_3
    try clear hfz12_4
    try clear hfz12_5
    try clear hfz16_0
    try clear hfz16_1
    try clear hfz16_2
    try clear hfz16_3
    try clear hfz16_4
    try clear hfz16_5
    try clear hfz20_0
    try clear hfz20_1
    try clear hfz20_2
    try clear hfz20_3
    try clear hfz20_4
    try clear hfz21_0
    try clear hfz21_1
    try clear hfz21_2
    try clear hfz21_3
    try clear hfz21_4
    try clear hfz21_5
    try clear hfz25_0
    try clear hfz25_1
    try clear hfz25_2
    try clear hfz25_3
    try clear hfz25_4
    try clear hfz25_5
    try clear hfz26_0
    try clear hfz26_1
    try clear hfz26_2
    try clear hfz26_3
    try clear hfz26_4
    try clear hfz29_0
    try clear hfz29_1
    try clear hfz29_2
    try clear hfz29_3
    try clear hfz29_4
    try clear hfz29_5
    try clear hfz30_0
    try clear hfz30_1
    try clear hfz30_2
    try clear hfz30_3
    try clear hfz30_4
    try clear hfz32_0
    try clear hfz32_1
    try clear hfz32_2
    try clear hfz32_3
    try clear hfz32_4
    try clear hfz32_5
    try clear hfz33_0
    try clear hfz33_1
    try clear hfz33_2
    try clear hfz33_3
    try clear hfz33_4
    try clear hfz7_0
    try clear hfz7_1
    try clear hfz7_2
    try clear hfz7_3
    try clear hfz7_4
    try clear hfz7_5
    obtain ⟨kq, x23_13, rfl, HA, HJ13, BK117, BK124, HB⟩ := hcut
    cases kq with
    | zero => exact absurd HA.out (by simp [purl_Check.j0])
    | succ kj13 =>
     have H := HA.out
     clear HA
     simp only [purl_Check.j0] at H
     by_cases c34 : x23_13 = true
     ·subst c34
      have H1 : (some 2) = some r := by rw [if_pos rfl] at H; exact H
      clear H
      have H := H1
      clear H1
      obtain rfl := Option.some.inj H
      simp only [Option.some.injEq, Prod.mk.injEq] at H
      obtain ⟨rfl⟩ := H
      go_wp2
      go_ret
      exact ⟨by first | rfl | (simp [errW_none, errW_some] <;> rfl) | (simp [*, errW_none, errW_some] <;> rfl), by repeat (first | (with_reducible first | exact HB.out | apply zd | apply zb | apply zc | refine zf ?_ GE117.out | refine zf ?_ GE124.out) | exact HB.out)⟩
     ·replace c34 := Bool.eq_false_iff.mpr c34
      subst c34
      have H1 : ((purl_segments.f a0_1).bind fun t126 => ((purl_pathFault.f kj13 t126 false).bind fun t129 => (if t129 = true then (some 2) else (if a0_2.toList = ([] : List UInt8) then (some 8) else ((lib_IndexByte.f a0_2 47).bind fun t130 => (if t130 ≥ 0 then (some 8) else ((purl_checkQualifiers.f kj13 l0_4).bind fun t131 => (if t131 = 0 then ((purl_segments.f a0_5).bind fun t132 => ((purl_pathFault.f kj13 t132 true).bind fun t135 => (if t135 = true then (some 2) else ((some (([a0_1, a0_2, a0_3, a0_5] : List ByteArray) : List ByteArray)).bind fun y136 => (purl_Check.l0 kj13 y136 (y136.length : Int) 0 a0_0 a0_1 a0_2 a0_3 l0_4 a0_5))))) else (some t131))))))))) = some r := by rw [if_neg (show ¬ (false = true) by decide)] at H; exact H
      clear H
      have H := H1
      clear H1
      replace H := zu.mp H
      obtain ⟨t126, A350, H⟩ := H
      replace H : ((purl_pathFault.f kj13 t126 false).bind fun t129 => (if t129 = true then (some 2) else (if a0_2.toList = ([] : List UInt8) then (some 8) else ((lib_IndexByte.f a0_2 47).bind fun t130 => (if t130 ≥ 0 then (some 8) else ((purl_checkQualifiers.f kj13 l0_4).bind fun t131 => (if t131 = 0 then ((purl_segments.f a0_5).bind fun t132 => ((purl_pathFault.f kj13 t132 true).bind fun t135 => (if t135 = true then (some 2) else ((some (([a0_1, a0_2, a0_3, a0_5] : List ByteArray) : List ByteArray)).bind fun y136 => (purl_Check.l0 kj13 y136 (y136.length : Int) 0 a0_0 a0_1 a0_2 a0_3 l0_4 a0_5))))) else (some t131)))))))) = some r := H
      have A35 := Aside0.mk A350
      clear A350
      replace H := zu.mp H
      obtain ⟨t129, A360, H⟩ := H
      replace H : (if t129 = true then (some 2) else (if a0_2.toList = ([] : List UInt8) then (some 8) else ((lib_IndexByte.f a0_2 47).bind fun t130 => (if t130 ≥ 0 then (some 8) else ((purl_checkQualifiers.f kj13 l0_4).bind fun t131 => (if t131 = 0 then ((purl_segments.f a0_5).bind fun t132 => ((purl_pathFault.f kj13 t132 true).bind fun t135 => (if t135 = true then (some 2) else ((some (([a0_1, a0_2, a0_3, a0_5] : List ByteArray) : List ByteArray)).bind fun y136 => (purl_Check.l0 kj13 y136 (y136.length : Int) 0 a0_0 a0_1 a0_2 a0_3 l0_4 a0_5))))) else (some t131))))))) = some r := H
      have A36 := Aside0.mk A360
      clear A360
      by_cases c37 : t129 = true
      ·subst c37
       have H1 : (some 2) = some r := by rw [if_pos rfl] at H; exact H
       clear H
       have H := H1
       clear H1
       obtain rfl := Option.some.inj H
       simp only [Option.some.injEq, Prod.mk.injEq] at H
       obtain ⟨rfl⟩ := H
       have hnb38 := NB117_124.out
       have hnc38 := NB124_117.out
       have hcz39_0 : wc.cell? ⟨gb117, 0, none⟩ = some (.string a0_0) := (ze BK117.out 0).trans rfl
       have hcz39_1 : wc.cell? ⟨gb117, 1, none⟩ = some (.string a0_1) := (ze BK117.out 1).trans rfl
       have hcz39_2 : wc.cell? ⟨gb117, 2, none⟩ = some (.string a0_2) := (ze BK117.out 2).trans rfl
       have hcz39_3 : wc.cell? ⟨gb117, 3, none⟩ = some (.string a0_3) := (ze BK117.out 3).trans rfl
       have hcz39_4 : wc.cell? ⟨gb117, 4, none⟩ = some (.slice A0_4 l0_4.length c0_4) := (ze BK117.out 4).trans rfl
       have hcz39_5 : wc.cell? ⟨gb117, 5, none⟩ = some (.string a0_5) := (ze BK117.out 5).trans rfl
       have hfz39_0 := za BK117.out 0
       have hfz39_1 := za BK117.out 1
       have hfz39_2 := za BK117.out 2
       have hfz39_3 := za BK117.out 3
       have hfz39_4 := za BK117.out 4
       have hfz39_5 := za BK117.out 5
       go_wp2_with (first | ((with_reducible refine gate_callee (f := 68) rfl ?_); refine goesL_ (some 45) rfl rfl Tryd.func68 (by kernel_rfl) rfl #[.string a0_1] rfl (by (try simp only [List.map_toArray, List.map_cons, List.map_nil]); first | done | rfl | (simp only [List.length_drop, List.length_take]; rfl)) ?_; (with_reducible refine (purl_segments.calls a0_1 t126 _ A35.out).mono ?_); rintro e w40 ⟨v127, rfl, ho0, hb⟩; refine ⟨_, rfl, ?_⟩; have n0_ := Aside0.mk (Kd.R_lower ho0 (zz (by repeat (first | (with_reducible first | exact HB.out | apply zd | apply zb | apply zc | refine zf ?_ GE117.out | refine zf ?_ GE124.out) | exact HB.out)))); have n1_ := Aside0.mk (zw (g := gb117) (o := .cells #[.string a0_0, .string a0_1, .string a0_2, .string a0_3, .slice A0_4 l0_4.length c0_4, .string a0_5] 24 (0, 0)) (by (with_reducible repeat (first | refine zg ?_ _ | refine zi ?_ | refine zh ?_ _)); exact BK117.out) hb); have n2_ := Aside0.mk (zw (g := gb124) (o := .cells #[.string t118, .int .i64 t119, .bool t120, .bool t121, .int .i64 t122] 37 (0, 0)) (by (with_reducible repeat (first | refine zg ?_ _ | refine zi ?_ | refine zh ?_ _)); exact BK124.out) hb); have n3_ := Aside0.mk (zv (by repeat (first | (with_reducible first | exact HB.out | apply zd | apply zb | apply zc | refine zf ?_ GE117.out | refine zf ?_ GE124.out) | exact HB.out)) hb); clear BK117; clear BK124; clear HB; have HO128 := n0_; have BK117 := n1_; have BK124 := n2_; have HB := n3_; clear n0_ n1_ n2_ n3_; (try clear hb); (try clear hb2); (try clear hk); (try clear hi); (try clear ho0); obtain ⟨Ao41, co41, eo41⟩ := Kd.R_slice HO128.out; subst eo41) | ((with_reducible refine gate_callee (f := 67) rfl ?_); refine goesL_ (some 46) rfl rfl Tryd.func67 (by kernel_rfl) rfl #[.slice Ao41 t126.length co41, .bool false] rfl (by (try simp only [List.map_toArray, List.map_cons, List.map_nil]); first | done | rfl | (simp only [List.length_drop, List.length_take]; rfl)) ?_; (with_reducible refine (purl_pathFault.calls kj13 _ _ t126 false true _ ?side1 ?side2 A36.out).mono ?_); (case side1 => repeat (first | exact (Kd.R_reads' HO128.out).2.2 | (with_reducible refine zF ?_ _) | (with_reducible refine zE ?_ _) | (with_reducible refine zG ?_))); (case side2 => exact (Kd.R_reads' HO128.out).2.1); rintro e w' ⟨rfl, ⟨nd, rfl⟩⟩; refine ⟨_, rfl, ?_⟩))
       go_ret
       exact ⟨by first | rfl | (simp [errW_none, errW_some] <;> rfl) | (simp [*, errW_none, errW_some] <;> rfl), by repeat (first | (with_reducible first | exact HB.out | apply zd | apply zb | apply zc | refine zf ?_ GE117.out | refine zf ?_ GE124.out) | exact HB.out)⟩
      ·replace c37 := Bool.eq_false_iff.mpr c37
       subst c37
       have H1 : (if a0_2.toList = ([] : List UInt8) then (some 8) else ((lib_IndexByte.f a0_2 47).bind fun t130 => (if t130 ≥ 0 then (some 8) else ((purl_checkQualifiers.f kj13 l0_4).bind fun t131 => (if t131 = 0 then ((purl_segments.f a0_5).bind fun t132 => ((purl_pathFault.f kj13 t132 true).bind fun t135 => (if t135 = true then (some 2) else ((some (([a0_1, a0_2, a0_3, a0_5] : List ByteArray) : List ByteArray)).bind fun y136 => (purl_Check.l0 kj13 y136 (y136.length : Int) 0 a0_0 a0_1 a0_2 a0_3 l0_4 a0_5))))) else (some t131)))))) = some r := by rw [if_neg (show ¬ (false = true) by decide)] at H; exact H
       clear H
       have H := H1
       clear H1
       by_cases c42 : a0_2.toList = ([] : List UInt8)
       ·rw [if_pos c42] at H
        have c42b0 : (a0_2.toList == ([] : List UInt8)) = true := beq_iff_eq.mpr c42
        have c42b1 : (a0_2.toList != ([] : List UInt8)) = false := bne_eq_false_iff_eq.mpr c42
        clear c42
        obtain rfl := Option.some.inj H
        simp only [Option.some.injEq, Prod.mk.injEq] at H
        obtain ⟨rfl⟩ := H
        have hnb43 := NB117_124.out
        have hnc43 := NB124_117.out
        have hcz44_0 : wc.cell? ⟨gb117, 0, none⟩ = some (.string a0_0) := (ze BK117.out 0).trans rfl
        have hcz44_1 : wc.cell? ⟨gb117, 1, none⟩ = some (.string a0_1) := (ze BK117.out 1).trans rfl
        have hcz44_2 : wc.cell? ⟨gb117, 2, none⟩ = some (.string a0_2) := (ze BK117.out 2).trans rfl
        have hcz44_3 : wc.cell? ⟨gb117, 3, none⟩ = some (.string a0_3) := (ze BK117.out 3).trans rfl
        have hcz44_4 : wc.cell? ⟨gb117, 4, none⟩ = some (.slice A0_4 l0_4.length c0_4) := (ze BK117.out 4).trans rfl
        have hcz44_5 : wc.cell? ⟨gb117, 5, none⟩ = some (.string a0_5) := (ze BK117.out 5).trans rfl
        have hfz44_0 := za BK117.out 0
        have hfz44_1 := za BK117.out 1
        have hfz44_2 := za BK117.out 2
        have hfz44_3 := za BK117.out 3
        have hfz44_4 := za BK117.out 4
        have hfz44_5 := za BK117.out 5
        go_wp2_with (first | ((with_reducible refine gate_callee (f := 68) rfl ?_); refine goesL_ (some 45) rfl rfl Tryd.func68 (by kernel_rfl) rfl #[.string a0_1] rfl (by (try simp only [List.map_toArray, List.map_cons, List.map_nil]); first | done | rfl | (simp only [List.length_drop, List.length_take]; rfl)) ?_; (with_reducible refine (purl_segments.calls a0_1 t126 _ A35.out).mono ?_); rintro e w45 ⟨v127, rfl, ho0, hb⟩; refine ⟨_, rfl, ?_⟩; have n0_ := Aside0.mk (Kd.R_lower ho0 (zz (by repeat (first | (with_reducible first | exact HB.out | apply zd | apply zb | apply zc | refine zf ?_ GE117.out | refine zf ?_ GE124.out) | exact HB.out)))); have n1_ := Aside0.mk (zw (g := gb117) (o := .cells #[.string a0_0, .string a0_1, .string a0_2, .string a0_3, .slice A0_4 l0_4.length c0_4, .string a0_5] 24 (0, 0)) (by (with_reducible repeat (first | refine zg ?_ _ | refine zi ?_ | refine zh ?_ _)); exact BK117.out) hb); have n2_ := Aside0.mk (zw (g := gb124) (o := .cells #[.string t118, .int .i64 t119, .bool t120, .bool t121, .int .i64 t122] 37 (0, 0)) (by (with_reducible repeat (first | refine zg ?_ _ | refine zi ?_ | refine zh ?_ _)); exact BK124.out) hb); have n3_ := Aside0.mk (zv (by repeat (first | (with_reducible first | exact HB.out | apply zd | apply zb | apply zc | refine zf ?_ GE117.out | refine zf ?_ GE124.out) | exact HB.out)) hb); clear BK117; clear BK124; clear HB; have HO128 := n0_; have BK117 := n1_; have BK124 := n2_; have HB := n3_; clear n0_ n1_ n2_ n3_; (try clear hb); (try clear hb2); (try clear hk); (try clear hi); (try clear ho0); obtain ⟨Ao46, co46, eo46⟩ := Kd.R_slice HO128.out; subst eo46) | ((with_reducible refine gate_callee (f := 67) rfl ?_); refine goesL_ (some 46) rfl rfl Tryd.func67 (by kernel_rfl) rfl #[.slice Ao46 t126.length co46, .bool false] rfl (by (try simp only [List.map_toArray, List.map_cons, List.map_nil]); first | done | rfl | (simp only [List.length_drop, List.length_take]; rfl)) ?_; (with_reducible refine (purl_pathFault.calls kj13 _ _ t126 false false _ ?side1 ?side2 A36.out).mono ?_); (case side1 => repeat (first | exact (Kd.R_reads' HO128.out).2.2 | (with_reducible refine zF ?_ _) | (with_reducible refine zE ?_ _) | (with_reducible refine zG ?_))); (case side2 => exact (Kd.R_reads' HO128.out).2.1); rintro e w' ⟨rfl, ⟨nd, rfl⟩⟩; refine ⟨_, rfl, ?_⟩; have hcz47_0 : w45.cell? ⟨gb117, 0, none⟩ = some (.string a0_0) := (ze BK117.out 0).trans rfl; have hcz47_1 : w45.cell? ⟨gb117, 1, none⟩ = some (.string a0_1) := (ze BK117.out 1).trans rfl; have hcz47_2 : w45.cell? ⟨gb117, 2, none⟩ = some (.string a0_2) := (ze BK117.out 2).trans rfl; have hcz47_3 : w45.cell? ⟨gb117, 3, none⟩ = some (.string a0_3) := (ze BK117.out 3).trans rfl; have hcz47_4 : w45.cell? ⟨gb117, 4, none⟩ = some (.slice A0_4 l0_4.length c0_4) := (ze BK117.out 4).trans rfl; have hcz47_5 : w45.cell? ⟨gb117, 5, none⟩ = some (.string a0_5) := (ze BK117.out 5).trans rfl; have hfz47_0 := za BK117.out 0; have hfz47_1 := za BK117.out 1; have hfz47_2 := za BK117.out 2; have hfz47_3 := za BK117.out 3; have hfz47_4 := za BK117.out 4; have hfz47_5 := za BK117.out 5))
        go_ret
        exact ⟨by first | rfl | (simp [errW_none, errW_some] <;> rfl) | (simp [*, errW_none, errW_some] <;> rfl), by repeat (first | (with_reducible first | exact HB.out | apply zd | apply zb | apply zc | refine zf ?_ GE117.out | refine zf ?_ GE124.out) | exact HB.out)⟩
       ·rw [if_neg c42] at H
        have c42b0 : (a0_2.toList == ([] : List UInt8)) = false := beq_eq_false_iff_ne.mpr c42
        have c42b1 : (a0_2.toList != ([] : List UInt8)) = true := bne_iff_ne.mpr c42
        replace H := zu.mp H
        obtain ⟨t130, A480, H⟩ := H
        replace H : (if t130 ≥ 0 then (some 8) else ((purl_checkQualifiers.f kj13 l0_4).bind fun t131 => (if t131 = 0 then ((purl_segments.f a0_5).bind fun t132 => ((purl_pathFault.f kj13 t132 true).bind fun t135 => (if t135 = true then (some 2) else ((some (([a0_1, a0_2, a0_3, a0_5] : List ByteArray) : List ByteArray)).bind fun y136 => (purl_Check.l0 kj13 y136 (y136.length : Int) 0 a0_0 a0_1 a0_2 a0_3 l0_4 a0_5))))) else (some t131)))) = some r := H
        have A48 := Aside0.mk A480
        clear A480
        by_cases c49 : t130 ≥ 0
        ·rw [if_pos c49] at H
         have c49b0 : decide (0 ≤ t130) = true := zk c49
         clear c49
         obtain rfl := Option.some.inj H
         simp only [Option.some.injEq, Prod.mk.injEq] at H
         obtain ⟨rfl⟩ := H
         have hnb50 := NB117_124.out
         have hnc50 := NB124_117.out
         have hcz51_0 : wc.cell? ⟨gb117, 0, none⟩ = some (.string a0_0) := (ze BK117.out 0).trans rfl
         have hcz51_1 : wc.cell? ⟨gb117, 1, none⟩ = some (.string a0_1) := (ze BK117.out 1).trans rfl
         have hcz51_2 : wc.cell? ⟨gb117, 2, none⟩ = some (.string a0_2) := (ze BK117.out 2).trans rfl
         have hcz51_3 : wc.cell? ⟨gb117, 3, none⟩ = some (.string a0_3) := (ze BK117.out 3).trans rfl
         have hcz51_4 : wc.cell? ⟨gb117, 4, none⟩ = some (.slice A0_4 l0_4.length c0_4) := (ze BK117.out 4).trans rfl
         have hcz51_5 : wc.cell? ⟨gb117, 5, none⟩ = some (.string a0_5) := (ze BK117.out 5).trans rfl
         have hfz51_0 := za BK117.out 0
         have hfz51_1 := za BK117.out 1
         have hfz51_2 := za BK117.out 2
         have hfz51_3 := za BK117.out 3
         have hfz51_4 := za BK117.out 4
         have hfz51_5 := za BK117.out 5
         go_wp2_with (first | ((with_reducible refine gate_callee (f := 68) rfl ?_); refine goesL_ (some 45) rfl rfl Tryd.func68 (by kernel_rfl) rfl #[.string a0_1] rfl (by (try simp only [List.map_toArray, List.map_cons, List.map_nil]); first | done | rfl | (simp only [List.length_drop, List.length_take]; rfl)) ?_; (with_reducible refine (purl_segments.calls a0_1 t126 _ A35.out).mono ?_); rintro e w52 ⟨v127, rfl, ho0, hb⟩; refine ⟨_, rfl, ?_⟩; have n0_ := Aside0.mk (Kd.R_lower ho0 (zz (by repeat (first | (with_reducible first | exact HB.out | apply zd | apply zb | apply zc | refine zf ?_ GE117.out | refine zf ?_ GE124.out) | exact HB.out)))); have n1_ := Aside0.mk (zw (g := gb117) (o := .cells #[.string a0_0, .string a0_1, .string a0_2, .string a0_3, .slice A0_4 l0_4.length c0_4, .string a0_5] 24 (0, 0)) (by (with_reducible repeat (first | refine zg ?_ _ | refine zi ?_ | refine zh ?_ _)); exact BK117.out) hb); have n2_ := Aside0.mk (zw (g := gb124) (o := .cells #[.string t118, .int .i64 t119, .bool t120, .bool t121, .int .i64 t122] 37 (0, 0)) (by (with_reducible repeat (first | refine zg ?_ _ | refine zi ?_ | refine zh ?_ _)); exact BK124.out) hb); have n3_ := Aside0.mk (zv (by repeat (first | (with_reducible first | exact HB.out | apply zd | apply zb | apply zc | refine zf ?_ GE117.out | refine zf ?_ GE124.out) | exact HB.out)) hb); clear BK117; clear BK124; clear HB; have HO128 := n0_; have BK117 := n1_; have BK124 := n2_; have HB := n3_; clear n0_ n1_ n2_ n3_; (try clear hb); (try clear hb2); (try clear hk); (try clear hi); (try clear ho0); obtain ⟨Ao53, co53, eo53⟩ := Kd.R_slice HO128.out; subst eo53) | ((with_reducible refine gate_callee (f := 67) rfl ?_); refine goesL_ (some 46) rfl rfl Tryd.func67 (by kernel_rfl) rfl #[.slice Ao53 t126.length co53, .bool false] rfl (by (try simp only [List.map_toArray, List.map_cons, List.map_nil]); first | done | rfl | (simp only [List.length_drop, List.length_take]; rfl)) ?_; (with_reducible refine (purl_pathFault.calls kj13 _ _ t126 false false _ ?side1 ?side2 A36.out).mono ?_); (case side1 => repeat (first | exact (Kd.R_reads' HO128.out).2.2 | (with_reducible refine zF ?_ _) | (with_reducible refine zE ?_ _) | (with_reducible refine zG ?_))); (case side2 => exact (Kd.R_reads' HO128.out).2.1); rintro e w' ⟨rfl, ⟨nd, rfl⟩⟩; refine ⟨_, rfl, ?_⟩; have hcz54_0 : w52.cell? ⟨gb117, 0, none⟩ = some (.string a0_0) := (ze BK117.out 0).trans rfl; have hcz54_1 : w52.cell? ⟨gb117, 1, none⟩ = some (.string a0_1) := (ze BK117.out 1).trans rfl; have hcz54_2 : w52.cell? ⟨gb117, 2, none⟩ = some (.string a0_2) := (ze BK117.out 2).trans rfl; have hcz54_3 : w52.cell? ⟨gb117, 3, none⟩ = some (.string a0_3) := (ze BK117.out 3).trans rfl; have hcz54_4 : w52.cell? ⟨gb117, 4, none⟩ = some (.slice A0_4 l0_4.length c0_4) := (ze BK117.out 4).trans rfl; have hcz54_5 : w52.cell? ⟨gb117, 5, none⟩ = some (.string a0_5) := (ze BK117.out 5).trans rfl; have hfz54_0 := za BK117.out 0; have hfz54_1 := za BK117.out 1; have hfz54_2 := za BK117.out 2; have hfz54_3 := za BK117.out 3; have hfz54_4 := za BK117.out 4; have hfz54_5 := za BK117.out 5) | (go_at_call 69; (with_reducible refine (lib_IndexByte.calls a0_2 47 t130 _ A48.out).mono ?_); rintro e w' ⟨rfl, ⟨nd, rfl⟩⟩))
         go_ret
         exact ⟨by first | rfl | (simp [errW_none, errW_some] <;> rfl) | (simp [*, errW_none, errW_some] <;> rfl), by repeat (first | (with_reducible first | exact HB.out | apply zd | apply zb | apply zc | refine zf ?_ GE117.out | refine zf ?_ GE124.out) | exact HB.out)⟩
        ·rw [if_neg c49] at H
         have c49b0 : decide (0 ≤ t130) = false := zl c49
         clear c49
         replace H := zu.mp H
         obtain ⟨t131, A550, H⟩ := H
         replace H : (if t131 = 0 then ((purl_segments.f a0_5).bind fun t132 => ((purl_pathFault.f kj13 t132 true).bind fun t135 => (if t135 = true then (some 2) else ((some (([a0_1, a0_2, a0_3, a0_5] : List ByteArray) : List ByteArray)).bind fun y136 => (purl_Check.l0 kj13 y136 (y136.length : Int) 0 a0_0 a0_1 a0_2 a0_3 l0_4 a0_5))))) else (some t131)) = some r := H
         have A55 := Aside0.mk A550
         clear A550
         by_cases c56 : t131 = 0
         ·rw [if_pos c56] at H
          have c56b0 : (t131 == 0) = true := beq_iff_eq.mpr c56
          have c56b1 : (t131 != 0) = false := bne_eq_false_iff_eq.mpr c56
          clear c56
          replace H := zu.mp H
          obtain ⟨t132, A570, H⟩ := H
          replace H : ((purl_pathFault.f kj13 t132 true).bind fun t135 => (if t135 = true then (some 2) else ((some (([a0_1, a0_2, a0_3, a0_5] : List ByteArray) : List ByteArray)).bind fun y136 => (purl_Check.l0 kj13 y136 (y136.length : Int) 0 a0_0 a0_1 a0_2 a0_3 l0_4 a0_5)))) = some r := H
          have A57 := Aside0.mk A570
          clear A570
          replace H := zu.mp H
          obtain ⟨t135, A580, H⟩ := H
          replace H : (if t135 = true then (some 2) else ((some (([a0_1, a0_2, a0_3, a0_5] : List ByteArray) : List ByteArray)).bind fun y136 => (purl_Check.l0 kj13 y136 (y136.length : Int) 0 a0_0 a0_1 a0_2 a0_3 l0_4 a0_5))) = some r := H
          have A58 := Aside0.mk A580
          clear A580
          by_cases c59 : t135 = true
          ·subst c59
           have H1 : (some 2) = some r := by rw [if_pos rfl] at H; exact H
           clear H
           have H := H1
           clear H1
           obtain rfl := Option.some.inj H
           simp only [Option.some.injEq, Prod.mk.injEq] at H
           obtain ⟨rfl⟩ := H
           have hnb60 := NB117_124.out
           have hnc60 := NB124_117.out
           have hcz61_0 : wc.cell? ⟨gb117, 0, none⟩ = some (.string a0_0) := (ze BK117.out 0).trans rfl
           have hcz61_1 : wc.cell? ⟨gb117, 1, none⟩ = some (.string a0_1) := (ze BK117.out 1).trans rfl
           have hcz61_2 : wc.cell? ⟨gb117, 2, none⟩ = some (.string a0_2) := (ze BK117.out 2).trans rfl
           have hcz61_3 : wc.cell? ⟨gb117, 3, none⟩ = some (.string a0_3) := (ze BK117.out 3).trans rfl
           have hcz61_4 : wc.cell? ⟨gb117, 4, none⟩ = some (.slice A0_4 l0_4.length c0_4) := (ze BK117.out 4).trans rfl
           have hcz61_5 : wc.cell? ⟨gb117, 5, none⟩ = some (.string a0_5) := (ze BK117.out 5).trans rfl
           have hfz61_0 := za BK117.out 0
           have hfz61_1 := za BK117.out 1
           have hfz61_2 := za BK117.out 2
           have hfz61_3 := za BK117.out 3
           have hfz61_4 := za BK117.out 4
           have hfz61_5 := za BK117.out 5
           go_wp2_with (first | ((with_reducible refine gate_callee (f := 68) rfl ?_); refine goesL_ (some 45) rfl rfl Tryd.func68 (by kernel_rfl) rfl #[.string a0_1] rfl (by (try simp only [List.map_toArray, List.map_cons, List.map_nil]); first | done | rfl | (simp only [List.length_drop, List.length_take]; rfl)) ?_; (with_reducible refine (purl_segments.calls a0_1 t126 _ A35.out).mono ?_); rintro e w62 ⟨v127, rfl, ho0, hb⟩; refine ⟨_, rfl, ?_⟩; have n0_ := Aside0.mk (Kd.R_lower ho0 (zz (by repeat (first | (with_reducible first | exact HB.out | apply zd | apply zb | apply zc | refine zf ?_ GE117.out | refine zf ?_ GE124.out) | exact HB.out)))); have n1_ := Aside0.mk (zw (g := gb117) (o := .cells #[.string a0_0, .string a0_1, .string a0_2, .string a0_3, .slice A0_4 l0_4.length c0_4, .string a0_5] 24 (0, 0)) (by (with_reducible repeat (first | refine zg ?_ _ | refine zi ?_ | refine zh ?_ _)); exact BK117.out) hb); have n2_ := Aside0.mk (zw (g := gb124) (o := .cells #[.string t118, .int .i64 t119, .bool t120, .bool t121, .int .i64 t122] 37 (0, 0)) (by (with_reducible repeat (first | refine zg ?_ _ | refine zi ?_ | refine zh ?_ _)); exact BK124.out) hb); have n3_ := Aside0.mk (zv (by repeat (first | (with_reducible first | exact HB.out | apply zd | apply zb | apply zc | refine zf ?_ GE117.out | refine zf ?_ GE124.out) | exact HB.out)) hb); clear BK117; clear BK124; clear HB; have HO128 := n0_; have BK117 := n1_; have BK124 := n2_; have HB := n3_; clear n0_ n1_ n2_ n3_; (try clear hb); (try clear hb2); (try clear hk); (try clear hi); (try clear ho0); obtain ⟨Ao63, co63, eo63⟩ := Kd.R_slice HO128.out; subst eo63) | ((with_reducible refine gate_callee (f := 67) rfl ?_); refine goesL_ (some 46) rfl rfl Tryd.func67 (by kernel_rfl) rfl #[.slice Ao63 t126.length co63, .bool false] rfl (by (try simp only [List.map_toArray, List.map_cons, List.map_nil]); first | done | rfl | (simp only [List.length_drop, List.length_take]; rfl)) ?_; (with_reducible refine (purl_pathFault.calls kj13 _ _ t126 false false _ ?side1 ?side2 A36.out).mono ?_); (case side1 => repeat (first | exact (Kd.R_reads' HO128.out).2.2 | (with_reducible refine zF ?_ _) | (with_reducible refine zE ?_ _) | (with_reducible refine zG ?_))); (case side2 => exact (Kd.R_reads' HO128.out).2.1); rintro e w' ⟨rfl, ⟨nd, rfl⟩⟩; refine ⟨_, rfl, ?_⟩; have hcz64_0 : w62.cell? ⟨gb117, 0, none⟩ = some (.string a0_0) := (ze BK117.out 0).trans rfl; have hcz64_1 : w62.cell? ⟨gb117, 1, none⟩ = some (.string a0_1) := (ze BK117.out 1).trans rfl; have hcz64_2 : w62.cell? ⟨gb117, 2, none⟩ = some (.string a0_2) := (ze BK117.out 2).trans rfl; have hcz64_3 : w62.cell? ⟨gb117, 3, none⟩ = some (.string a0_3) := (ze BK117.out 3).trans rfl; have hcz64_4 : w62.cell? ⟨gb117, 4, none⟩ = some (.slice A0_4 l0_4.length c0_4) := (ze BK117.out 4).trans rfl; have hcz64_5 : w62.cell? ⟨gb117, 5, none⟩ = some (.string a0_5) := (ze BK117.out 5).trans rfl; have hfz64_0 := za BK117.out 0; have hfz64_1 := za BK117.out 1; have hfz64_2 := za BK117.out 2; have hfz64_3 := za BK117.out 3; have hfz64_4 := za BK117.out 4; have hfz64_5 := za BK117.out 5) | (go_at_call 69; (with_reducible refine (lib_IndexByte.calls a0_2 47 t130 _ A48.out).mono ?_); rintro e w' ⟨rfl, ⟨nd, rfl⟩⟩) | ((with_reducible refine gate_callee (f := 70) rfl ?_); refine goesL_ (some 59) rfl rfl Tryd.func70 (by kernel_rfl) rfl #[.slice A0_4 l0_4.length c0_4] rfl (by (try simp only [List.map_toArray, List.map_cons, List.map_nil]); first | done | rfl | (simp only [List.length_drop, List.length_take]; rfl)) ?_; (with_reducible refine (purl_checkQualifiers.calls kj13 _ _ l0_4 t131 _ ?side1 ?side2 A55.out).mono ?_); (case side1 => repeat (first | exact (Kd.C_below HR0_4.out (by repeat (first | (with_reducible first | exact HB.out | apply zd | apply zb | apply zc | refine zf ?_ GE117.out | refine zf ?_ GE124.out) | exact HB.out))) | (with_reducible refine zF ?_ _) | (with_reducible refine zE ?_ _) | (with_reducible refine zG ?_))); (case side2 => exact HC0_4.out); rintro e w65 ⟨rfl, hb⟩; refine ⟨_, rfl, ?_⟩; have n0_ := Aside0.mk (Kd.R_below (by (with_reducible repeat (first | apply zC | apply zB | apply zD)); exact HO128.out) hb); have n1_ := Aside0.mk (zw (g := gb117) (o := .cells #[.string a0_0, .string a0_1, .string a0_2, .string a0_3, .slice A0_4 l0_4.length c0_4, .string a0_5] 24 (0, 0)) (by (with_reducible repeat (first | refine zg ?_ _ | refine zi ?_ | refine zh ?_ _)); exact BK117.out) hb); have n2_ := Aside0.mk (zw (g := gb124) (o := .cells #[.string t118, .int .i64 t119, .bool t120, .bool t121, .int .i64 t122] 37 (0, 0)) (by (with_reducible repeat (first | refine zg ?_ _ | refine zi ?_ | refine zh ?_ _)); exact BK124.out) hb); have n3_ := Aside0.mk (zv (by repeat (first | (with_reducible first | exact HB.out | apply zd | apply zb | apply zc | refine zf ?_ GE117.out | refine zf ?_ GE124.out) | exact HB.out)) hb); clear HO128; clear BK117; clear BK124; clear HB; have HO128 := n0_; have BK117 := n1_; have BK124 := n2_; have HB := n3_; clear n0_ n1_ n2_ n3_; (try clear hb); (try clear hb2); (try clear hk); (try clear hi); have hcz66_0 : w65.cell? ⟨gb117, 0, none⟩ = some (.string a0_0) := (ze BK117.out 0).trans rfl; have hcz66_1 : w65.cell? ⟨gb117, 1, none⟩ = some (.string a0_1) := (ze BK117.out 1).trans rfl; have hcz66_2 : w65.cell? ⟨gb117, 2, none⟩ = some (.string a0_2) := (ze BK117.out 2).trans rfl; have hcz66_3 : w65.cell? ⟨gb117, 3, none⟩ = some (.string a0_3) := (ze BK117.out 3).trans rfl; have hcz66_4 : w65.cell? ⟨gb117, 4, none⟩ = some (.slice A0_4 l0_4.length c0_4) := (ze BK117.out 4).trans rfl; have hcz66_5 : w65.cell? ⟨gb117, 5, none⟩ = some (.string a0_5) := (ze BK117.out 5).trans rfl; have hfz66_0 := za BK117.out 0; have hfz66_1 := za BK117.out 1; have hfz66_2 := za BK117.out 2; have hfz66_3 := za BK117.out 3; have hfz66_4 := za BK117.out 4; have hfz66_5 := za BK117.out 5) | ((with_reducible refine gate_callee (f := 68) rfl ?_); refine goesL_ (some 65) rfl rfl Tryd.func68 (by kernel_rfl) rfl #[.string a0_5] rfl (by (try simp only [List.map_toArray, List.map_cons, List.map_nil]); first | done | rfl | (simp only [List.length_drop, List.length_take]; rfl)) ?_; (with_reducible refine (purl_segments.calls a0_5 t132 _ A57.out).mono ?_); rintro e w67 ⟨v133, rfl, ho0, hb⟩; refine ⟨_, rfl, ?_⟩; have n0_ := Aside0.mk (Kd.R_elder' (by (with_reducible repeat (first | apply zC | apply zB | apply zD)); exact HO128.out) (Kd.R_base ho0) hb); have n1_ := Aside0.mk (Kd.R_lower (Kd.R_new' ho0 (Kd.R_lt (by (with_reducible repeat (first | apply zC | apply zB | apply zD)); exact HO128.out))) (zz (by repeat (first | (with_reducible first | exact HB.out | apply zd | apply zb | apply zc | refine zf ?_ GE117.out | refine zf ?_ GE124.out) | exact HB.out)))); have n2_ := Aside0.mk (zw (g := gb117) (o := .cells #[.string a0_0, .string a0_1, .string a0_2, .string a0_3, .slice A0_4 l0_4.length c0_4, .string a0_5] 24 (0, 0)) (by (with_reducible repeat (first | refine zg ?_ _ | refine zi ?_ | refine zh ?_ _)); exact BK117.out) hb); have n3_ := Aside0.mk (zw (g := gb124) (o := .cells #[.string t118, .int .i64 t119, .bool t120, .bool t121, .int .i64 t122] 37 (0, 0)) (by (with_reducible repeat (first | refine zg ?_ _ | refine zi ?_ | refine zh ?_ _)); exact BK124.out) hb); have n4_ := Aside0.mk (zv (by repeat (first | (with_reducible first | exact HB.out | apply zd | apply zb | apply zc | refine zf ?_ GE117.out | refine zf ?_ GE124.out) | exact HB.out)) hb); clear HO128; clear BK117; clear BK124; clear HB; have HO128 := n0_; have HO134 := n1_; have BK117 := n2_; have BK124 := n3_; have HB := n4_; clear n0_ n1_ n2_ n3_ n4_; (try clear hb); (try clear hb2); (try clear hk); (try clear hi); (try clear ho0); obtain ⟨Ao68, co68, eo68⟩ := Kd.R_slice HO134.out; subst eo68) | ((with_reducible refine gate_callee (f := 67) rfl ?_); refine goesL_ (some 66) rfl rfl Tryd.func67 (by kernel_rfl) rfl #[.slice Ao68 t132.length co68, .bool true] rfl (by (try simp only [List.map_toArray, List.map_cons, List.map_nil]); first | done | rfl | (simp only [List.length_drop, List.length_take]; rfl)) ?_; (with_reducible refine (purl_pathFault.calls kj13 _ _ t132 true true _ ?side1 ?side2 A58.out).mono ?_); (case side1 => repeat (first | exact (Kd.R_reads' HO134.out).2.2 | (with_reducible refine zF ?_ _) | (with_reducible refine zE ?_ _) | (with_reducible refine zG ?_))); (case side2 => exact (Kd.R_reads' HO134.out).2.1); rintro e w' ⟨rfl, ⟨nd, rfl⟩⟩; refine ⟨_, rfl, ?_⟩))
           go_ret
           exact ⟨by first | rfl | (simp [errW_none, errW_some] <;> rfl) | (simp [*, errW_none, errW_some] <;> rfl), by repeat (first | (with_reducible first | exact HB.out | apply zd | apply zb | apply zc | refine zf ?_ GE117.out | refine zf ?_ GE124.out) | exact HB.out)⟩
          ·replace c59 := Bool.eq_false_iff.mpr c59
           subst c59
           have H1 : ((some (([a0_1, a0_2, a0_3, a0_5] : List ByteArray) : List ByteArray)).bind fun y136 => (purl_Check.l0 kj13 y136 (y136.length : Int) 0 a0_0 a0_1 a0_2 a0_3 l0_4 a0_5)) = some r := by rw [if_neg (show ¬ (false = true) by decide)] at H; exact H
           clear H
           have H := H1
           clear H1
           obtain ⟨y136, hy136⟩ : ∃ y_ : List ByteArray, y_ = (([a0_1, a0_2, a0_3, a0_5] : List ByteArray)) := ⟨_, rfl⟩
           replace H : (purl_Check.l0 kj13 y136 (y136.length : Int) 0 a0_0 a0_1 a0_2 a0_3 l0_4 a0_5) = some r := by first | (rw [hy136]; with_reducible exact H) | (have H2_ := (Option.bind_some _ _).symm.trans H; rw [hy136]; with_reducible exact H2_) | (have H2_ := (Option.bind_some _ _).symm.trans H; with_reducible exact H2_) | with_reducible exact H | (rw [hy136]; exact H) | exact H
           have Ny136 := Aside0.mk hy136
           clear hy136
           have H' := Aside0.mk H
           clear H
           have hnb69 := NB117_124.out
           have hnc69 := NB124_117.out
           have hcz70_0 : wc.cell? ⟨gb117, 0, none⟩ = some (.string a0_0) := (ze BK117.out 0).trans rfl
           have hcz70_1 : wc.cell? ⟨gb117, 1, none⟩ = some (.string a0_1) := (ze BK117.out 1).trans rfl
           have hcz70_2 : wc.cell? ⟨gb117, 2, none⟩ = some (.string a0_2) := (ze BK117.out 2).trans rfl
           have hcz70_3 : wc.cell? ⟨gb117, 3, none⟩ = some (.string a0_3) := (ze BK117.out 3).trans rfl
           have hcz70_4 : wc.cell? ⟨gb117, 4, none⟩ = some (.slice A0_4 l0_4.length c0_4) := (ze BK117.out 4).trans rfl
           have hcz70_5 : wc.cell? ⟨gb117, 5, none⟩ = some (.string a0_5) := (ze BK117.out 5).trans rfl
           have hfz70_0 := za BK117.out 0
           have hfz70_1 := za BK117.out 1
           have hfz70_2 := za BK117.out 2
           have hfz70_3 := za BK117.out 3
           have hfz70_4 := za BK117.out 4
           have hfz70_5 := za BK117.out 5
           go_wp2_with (first | ((with_reducible refine gate_callee (f := 68) rfl ?_); refine goesL_ (some 45) rfl rfl Tryd.func68 (by kernel_rfl) rfl #[.string a0_1] rfl (by (try simp only [List.map_toArray, List.map_cons, List.map_nil]); first | done | rfl | (simp only [List.length_drop, List.length_take]; rfl)) ?_; (with_reducible refine (purl_segments.calls a0_1 t126 _ A35.out).mono ?_); rintro e w71 ⟨v127, rfl, ho0, hb⟩; refine ⟨_, rfl, ?_⟩; have n0_ := Aside0.mk (Kd.R_lower ho0 (zz (by repeat (first | (with_reducible first | exact HB.out | apply zd | apply zb | apply zc | refine zf ?_ GE117.out | refine zf ?_ GE124.out) | exact HB.out)))); have n1_ := Aside0.mk (zw (g := gb117) (o := .cells #[.string a0_0, .string a0_1, .string a0_2, .string a0_3, .slice A0_4 l0_4.length c0_4, .string a0_5] 24 (0, 0)) (by (with_reducible repeat (first | refine zg ?_ _ | refine zi ?_ | refine zh ?_ _)); exact BK117.out) hb); have n2_ := Aside0.mk (zw (g := gb124) (o := .cells #[.string t118, .int .i64 t119, .bool t120, .bool t121, .int .i64 t122] 37 (0, 0)) (by (with_reducible repeat (first | refine zg ?_ _ | refine zi ?_ | refine zh ?_ _)); exact BK124.out) hb); have n3_ := Aside0.mk (zv (by repeat (first | (with_reducible first | exact HB.out | apply zd | apply zb | apply zc | refine zf ?_ GE117.out | refine zf ?_ GE124.out) | exact HB.out)) hb); clear BK117; clear BK124; clear HB; have HO128 := n0_; have BK117 := n1_; have BK124 := n2_; have HB := n3_; clear n0_ n1_ n2_ n3_; (try clear hb); (try clear hb2); (try clear hk); (try clear hi); (try clear ho0); obtain ⟨Ao72, co72, eo72⟩ := Kd.R_slice HO128.out; subst eo72) | ((with_reducible refine gate_callee (f := 67) rfl ?_); refine goesL_ (some 46) rfl rfl Tryd.func67 (by kernel_rfl) rfl #[.slice Ao72 t126.length co72, .bool false] rfl (by (try simp only [List.map_toArray, List.map_cons, List.map_nil]); first | done | rfl | (simp only [List.length_drop, List.length_take]; rfl)) ?_; (with_reducible refine (purl_pathFault.calls kj13 _ _ t126 false false _ ?side1 ?side2 A36.out).mono ?_); (case side1 => repeat (first | exact (Kd.R_reads' HO128.out).2.2 | (with_reducible refine zF ?_ _) | (with_reducible refine zE ?_ _) | (with_reducible refine zG ?_))); (case side2 => exact (Kd.R_reads' HO128.out).2.1); rintro e w' ⟨rfl, ⟨nd, rfl⟩⟩; refine ⟨_, rfl, ?_⟩; have hcz73_0 : w71.cell? ⟨gb117, 0, none⟩ = some (.string a0_0) := (ze BK117.out 0).trans rfl; have hcz73_1 : w71.cell? ⟨gb117, 1, none⟩ = some (.string a0_1) := (ze BK117.out 1).trans rfl; have hcz73_2 : w71.cell? ⟨gb117, 2, none⟩ = some (.string a0_2) := (ze BK117.out 2).trans rfl; have hcz73_3 : w71.cell? ⟨gb117, 3, none⟩ = some (.string a0_3) := (ze BK117.out 3).trans rfl; have hcz73_4 : w71.cell? ⟨gb117, 4, none⟩ = some (.slice A0_4 l0_4.length c0_4) := (ze BK117.out 4).trans rfl; have hcz73_5 : w71.cell? ⟨gb117, 5, none⟩ = some (.string a0_5) := (ze BK117.out 5).trans rfl; have hfz73_0 := za BK117.out 0; have hfz73_1 := za BK117.out 1; have hfz73_2 := za BK117.out 2; have hfz73_3 := za BK117.out 3; have hfz73_4 := za BK117.out 4; have hfz73_5 := za BK117.out 5) | (go_at_call 69; (with_reducible refine (lib_IndexByte.calls a0_2 47 t130 _ A48.out).mono ?_); rintro e w' ⟨rfl, ⟨nd, rfl⟩⟩) | ((with_reducible refine gate_callee (f := 70) rfl ?_); refine goesL_ (some 59) rfl rfl Tryd.func70 (by kernel_rfl) rfl #[.slice A0_4 l0_4.length c0_4] rfl (by (try simp only [List.map_toArray, List.map_cons, List.map_nil]); first | done | rfl | (simp only [List.length_drop, List.length_take]; rfl)) ?_; (with_reducible refine (purl_checkQualifiers.calls kj13 _ _ l0_4 t131 _ ?side1 ?side2 A55.out).mono ?_); (case side1 => repeat (first | exact (Kd.C_below HR0_4.out (by repeat (first | (with_reducible first | exact HB.out | apply zd | apply zb | apply zc | refine zf ?_ GE117.out | refine zf ?_ GE124.out) | exact HB.out))) | (with_reducible refine zF ?_ _) | (with_reducible refine zE ?_ _) | (with_reducible refine zG ?_))); (case side2 => exact HC0_4.out); rintro e w74 ⟨rfl, hb⟩; refine ⟨_, rfl, ?_⟩; have n0_ := Aside0.mk (Kd.R_below (by (with_reducible repeat (first | apply zC | apply zB | apply zD)); exact HO128.out) hb); have n1_ := Aside0.mk (zw (g := gb117) (o := .cells #[.string a0_0, .string a0_1, .string a0_2, .string a0_3, .slice A0_4 l0_4.length c0_4, .string a0_5] 24 (0, 0)) (by (with_reducible repeat (first | refine zg ?_ _ | refine zi ?_ | refine zh ?_ _)); exact BK117.out) hb); have n2_ := Aside0.mk (zw (g := gb124) (o := .cells #[.string t118, .int .i64 t119, .bool t120, .bool t121, .int .i64 t122] 37 (0, 0)) (by (with_reducible repeat (first | refine zg ?_ _ | refine zi ?_ | refine zh ?_ _)); exact BK124.out) hb); have n3_ := Aside0.mk (zv (by repeat (first | (with_reducible first | exact HB.out | apply zd | apply zb | apply zc | refine zf ?_ GE117.out | refine zf ?_ GE124.out) | exact HB.out)) hb); clear HO128; clear BK117; clear BK124; clear HB; have HO128 := n0_; have BK117 := n1_; have BK124 := n2_; have HB := n3_; clear n0_ n1_ n2_ n3_; (try clear hb); (try clear hb2); (try clear hk); (try clear hi); have hcz75_0 : w74.cell? ⟨gb117, 0, none⟩ = some (.string a0_0) := (ze BK117.out 0).trans rfl; have hcz75_1 : w74.cell? ⟨gb117, 1, none⟩ = some (.string a0_1) := (ze BK117.out 1).trans rfl; have hcz75_2 : w74.cell? ⟨gb117, 2, none⟩ = some (.string a0_2) := (ze BK117.out 2).trans rfl; have hcz75_3 : w74.cell? ⟨gb117, 3, none⟩ = some (.string a0_3) := (ze BK117.out 3).trans rfl; have hcz75_4 : w74.cell? ⟨gb117, 4, none⟩ = some (.slice A0_4 l0_4.length c0_4) := (ze BK117.out 4).trans rfl; have hcz75_5 : w74.cell? ⟨gb117, 5, none⟩ = some (.string a0_5) := (ze BK117.out 5).trans rfl; have hfz75_0 := za BK117.out 0; have hfz75_1 := za BK117.out 1; have hfz75_2 := za BK117.out 2; have hfz75_3 := za BK117.out 3; have hfz75_4 := za BK117.out 4; have hfz75_5 := za BK117.out 5) | ((with_reducible refine gate_callee (f := 68) rfl ?_); refine goesL_ (some 65) rfl rfl Tryd.func68 (by kernel_rfl) rfl #[.string a0_5] rfl (by (try simp only [List.map_toArray, List.map_cons, List.map_nil]); first | done | rfl | (simp only [List.length_drop, List.length_take]; rfl)) ?_; (with_reducible refine (purl_segments.calls a0_5 t132 _ A57.out).mono ?_); rintro e w76 ⟨v133, rfl, ho0, hb⟩; refine ⟨_, rfl, ?_⟩; have n0_ := Aside0.mk (Kd.R_elder' (by (with_reducible repeat (first | apply zC | apply zB | apply zD)); exact HO128.out) (Kd.R_base ho0) hb); have n1_ := Aside0.mk (Kd.R_lower (Kd.R_new' ho0 (Kd.R_lt (by (with_reducible repeat (first | apply zC | apply zB | apply zD)); exact HO128.out))) (zz (by repeat (first | (with_reducible first | exact HB.out | apply zd | apply zb | apply zc | refine zf ?_ GE117.out | refine zf ?_ GE124.out) | exact HB.out)))); have n2_ := Aside0.mk (zw (g := gb117) (o := .cells #[.string a0_0, .string a0_1, .string a0_2, .string a0_3, .slice A0_4 l0_4.length c0_4, .string a0_5] 24 (0, 0)) (by (with_reducible repeat (first | refine zg ?_ _ | refine zi ?_ | refine zh ?_ _)); exact BK117.out) hb); have n3_ := Aside0.mk (zw (g := gb124) (o := .cells #[.string t118, .int .i64 t119, .bool t120, .bool t121, .int .i64 t122] 37 (0, 0)) (by (with_reducible repeat (first | refine zg ?_ _ | refine zi ?_ | refine zh ?_ _)); exact BK124.out) hb); have n4_ := Aside0.mk (zv (by repeat (first | (with_reducible first | exact HB.out | apply zd | apply zb | apply zc | refine zf ?_ GE117.out | refine zf ?_ GE124.out) | exact HB.out)) hb); clear HO128; clear BK117; clear BK124; clear HB; have HO128 := n0_; have HO134 := n1_; have BK117 := n2_; have BK124 := n3_; have HB := n4_; clear n0_ n1_ n2_ n3_ n4_; (try clear hb); (try clear hb2); (try clear hk); (try clear hi); (try clear ho0); obtain ⟨Ao77, co77, eo77⟩ := Kd.R_slice HO134.out; subst eo77) | ((with_reducible refine gate_callee (f := 67) rfl ?_); refine goesL_ (some 66) rfl rfl Tryd.func67 (by kernel_rfl) rfl #[.slice Ao77 t132.length co77, .bool true] rfl (by (try simp only [List.map_toArray, List.map_cons, List.map_nil]); first | done | rfl | (simp only [List.length_drop, List.length_take]; rfl)) ?_; (with_reducible refine (purl_pathFault.calls kj13 _ _ t132 true false _ ?side1 ?side2 A58.out).mono ?_); (case side1 => repeat (first | exact (Kd.R_reads' HO134.out).2.2 | (with_reducible refine zF ?_ _) | (with_reducible refine zE ?_ _) | (with_reducible refine zG ?_))); (case side2 => exact (Kd.R_reads' HO134.out).2.1); rintro e w' ⟨rfl, ⟨nd, rfl⟩⟩; refine ⟨_, rfl, ?_⟩; have hcz78_0 : w76.cell? ⟨gb117, 0, none⟩ = some (.string a0_0) := (ze BK117.out 0).trans rfl; have hcz78_1 : w76.cell? ⟨gb117, 1, none⟩ = some (.string a0_1) := (ze BK117.out 1).trans rfl; have hcz78_2 : w76.cell? ⟨gb117, 2, none⟩ = some (.string a0_2) := (ze BK117.out 2).trans rfl; have hcz78_3 : w76.cell? ⟨gb117, 3, none⟩ = some (.string a0_3) := (ze BK117.out 3).trans rfl; have hcz78_4 : w76.cell? ⟨gb117, 4, none⟩ = some (.slice A0_4 l0_4.length c0_4) := (ze BK117.out 4).trans rfl; have hcz78_5 : w76.cell? ⟨gb117, 5, none⟩ = some (.string a0_5) := (ze BK117.out 5).trans rfl; have hfz78_0 := za BK117.out 0; have hfz78_1 := za BK117.out 1; have hfz78_2 := za BK117.out 2; have hfz78_3 := za BK117.out 3; have hfz78_4 := za BK117.out 4; have hfz78_5 := za BK117.out 5) | ((with_reducible refine gate_dst (N := 75) rfl ?_); refine Kd.R_lit Kd.string _ 9 ?hg (N := 75) ?hd (xs := ([a0_1, a0_2, a0_3, a0_5] : List ByteArray)) (inner := [.string a0_1, .string a0_2, .string a0_3, .string a0_5]) (ok := fun _ => True) (okp := fun _ => True) ?hr ?hp (fun _ hk => hk) trivial (Below.refl _ _) (Nat.le_refl _) (by simp) ?_; (case hd => rfl); (case hg => rfl); (case hr => first | (go_simp; done) | (go_simp; rfl)); (case hp => exact (Reps.one (show Kd.M Kd.string _ _ _ a0_1 [.string a0_1] from rfl) (Reps.one (show Kd.M Kd.string _ _ _ a0_2 [.string a0_2] from rfl) (Reps.one (show Kd.M Kd.string _ _ _ a0_3 [.string a0_3] from rfl) (Reps.one (show Kd.M Kd.string _ _ _ a0_5 [.string a0_5] from rfl) (Reps.none _ _)))))); intro v137 w79 ho80 hb hg_ hnew_; clear hg_ hnew_; (first | rw [← Ny136.out] at ho80 | (simp only [Int.reduceToNat] at ho80; rw [← Ny136.out] at ho80)); have n0_ := Aside0.mk (Kd.R_elder' (by (with_reducible repeat (first | apply zC | apply zB | apply zD)); exact HO128.out) (Kd.R_base ho80) hb); have n1_ := Aside0.mk (Kd.R_elder' (by (with_reducible repeat (first | apply zC | apply zB | apply zD)); exact HO134.out) (Kd.R_base ho80) hb); have n2_ := Aside0.mk (Kd.R_lower (Kd.R_new' (Kd.R_new' ho80 (Kd.R_lt (by (with_reducible repeat (first | apply zC | apply zB | apply zD)); exact HO128.out))) (Kd.R_lt (by (with_reducible repeat (first | apply zC | apply zB | apply zD)); exact HO134.out))) (zz (by repeat (first | (with_reducible first | exact HB.out | apply zd | apply zb | apply zc | refine zf ?_ GE117.out | refine zf ?_ GE124.out) | exact HB.out)))); have n3_ := Aside0.mk (zw (g := gb117) (o := .cells #[.string a0_0, .string a0_1, .string a0_2, .string a0_3, .slice A0_4 l0_4.length c0_4, .string a0_5] 24 (0, 0)) (by (with_reducible repeat (first | refine zg ?_ _ | refine zi ?_ | refine zh ?_ _)); exact BK117.out) hb); have n4_ := Aside0.mk (zw (g := gb124) (o := .cells #[.string t118, .int .i64 t119, .bool t120, .bool t121, .int .i64 t122] 37 (0, 0)) (by (with_reducible repeat (first | refine zg ?_ _ | refine zi ?_ | refine zh ?_ _)); exact BK124.out) hb); have n5_ := Aside0.mk (zv (by repeat (first | (with_reducible first | exact HB.out | apply zd | apply zb | apply zc | refine zf ?_ GE117.out | refine zf ?_ GE124.out) | exact HB.out)) hb); clear HO128; clear HO134; clear BK117; clear BK124; clear HB; have HO128 := n0_; have HO134 := n1_; have HO138 := n2_; have BK117 := n3_; have BK124 := n4_; have HB := n5_; clear n0_ n1_ n2_ n3_ n4_ n5_; clear hb ho80; obtain ⟨Ao81, co81, eo81⟩ := Kd.R_slice HO138.out; subst eo81))
           go_loopg [77] kj13 (fun kq v77 w' => ∃ (x77_2 : Int), v77 = .int .i64 x77_2 ∧ Aside0 (purl_Check.l0 kq y136 (y136.length : Int) x77_2 a0_0 a0_1 a0_2 a0_3 l0_4 a0_5 = some r) ∧ Aside0 (kq ≤ kj13) ∧ Aside0 (Kd.R Kd.string 9 w' w.heap.size (fun _ => True) (.slice Ao81 y136.length co81) y136) ∧ Aside0 (w'.heap[gb117]? = some (.cells #[.string a0_0, .string a0_1, .string a0_2, .string a0_3, (.slice A0_4 l0_4.length c0_4), .string a0_5] 24 (0, 0))) ∧ Aside0 (w'.heap[gb124]? = some (.cells #[.string t118, .int .i64 t119, .bool t120, .bool t121, .int .i64 t122] 37 (0, 0))) ∧ Aside0 (Below w.heap.size w w'))
           case atStart => exact ⟨(0), (by first | rfl | (simp; done) | (simp [*]; done)), H', ⟨Nat.le_refl _⟩, ⟨by (with_reducible repeat (first | apply zC | apply zB | apply zD)); exact Kd.R_mono HO138.out (fun _ hk => trivial)⟩, ⟨by (with_reducible repeat (first | refine zg ?_ _ | refine zi ?_ | refine zh ?_ _)); exact BK117.out⟩, ⟨by (with_reducible repeat (first | refine zg ?_ _ | refine zi ?_ | refine zh ?_ _)); exact BK124.out⟩, ⟨by repeat (first | (with_reducible first | exact HB.out | apply zd | apply zb | apply zc | refine zf ?_ GE117.out | refine zf ?_ GE124.out) | exact HB.out)⟩⟩
           case round =>
            clear H'
            try clear c1
            try clear c2
            try clear p2
            try clear c3
            try clear c3b0
            try clear c3b1
            try clear c4
            try clear c5
            try clear c6
            try clear c7
            try clear c10
            try clear c17
            try clear c19
            try clear c23
            try clear c23b0
            try clear c23b1
            try clear c24
            try clear c26
            try clear c27
            try clear c27b0
            try clear c27b1
            try clear c28
            try clear c31
            try clear c34
            try clear c37
            try clear c38
            try clear c42
            try clear c42b0
            try clear c42b1
            try clear c43
            try clear c49
            try clear c49b0
            try clear c50
            try clear c56
            try clear c56b0
            try clear c56b1
            try clear c59
            try clear c60
            try clear c66
            try clear c67
            try clear c68
            try clear c69
            try clear c70
            try clear hcz11_0
            try clear hcz11_1
            try clear hcz11_2
            try clear hcz11_3
            try clear hcz11_4
            try clear hcz12_0
            try clear hcz12_1
            try clear hcz12_2
            try clear hcz12_3
            try clear hcz12_4
            try clear hcz12_5
            try clear hcz16_0
            try clear hcz16_1
            try clear hcz16_2
            try clear hcz16_3
            try clear hcz16_4
            try clear hcz16_5
            try clear hcz20_0
            try clear hcz20_1
            try clear hcz20_2
            try clear hcz20_3
            try clear hcz20_4
            try clear hcz21_0
            try clear hcz21_1
            try clear hcz21_2
            try clear hcz21_3
            try clear hcz21_4
            try clear hcz21_5
            try clear hcz25_0
            try clear hcz25_1
            try clear hcz25_2
            try clear hcz25_3
            try clear hcz25_4
            try clear hcz25_5
            try clear hcz26_0
            try clear hcz26_1
            try clear hcz26_2
            try clear hcz26_3
            try clear hcz26_4
            try clear hcz29_0
            try clear hcz29_1
            try clear hcz29_2
            try clear hcz29_3
            try clear hcz29_4
            try clear hcz29_5
            try clear hcz30_0
            try clear hcz30_1
            try clear hcz30_2
            try clear hcz30_3
            try clear hcz30_4
            try clear hcz32_0
            try clear hcz32_1
            try clear hcz32_2
            try clear hcz32_3
            try clear hcz32_4
            try clear hcz32_5
            try clear hcz33_0
            try clear hcz33_1
            try clear hcz33_2
            try clear hcz33_3
            try clear hcz33_4
            try clear hcz39_0
            try clear hcz39_1
            try clear hcz39_2
            try clear hcz39_3
            try clear hcz39_4
            try clear hcz39_5
            try clear hcz44_0
            try clear hcz44_1
            try clear hcz44_2
            try clear hcz44_3
            try clear hcz44_4
            try clear hcz44_5
            try clear hcz47_0
            try clear hcz47_1
            try clear hcz47_2
            try clear hcz47_3
            try clear hcz47_4
            try clear hcz47_5
            try clear hcz51_0
            try clear hcz51_1
            try clear hcz51_2
            try clear hcz51_3
            try clear hcz51_4
            try clear hcz51_5
            try clear hcz54_0
            try clear hcz54_1
            try clear hcz54_2
            try clear hcz54_3
            try clear hcz54_4
            try clear hcz54_5
            try clear hcz61_0
            try clear hcz61_1
            try clear hcz61_2
            try clear hcz61_3
            try clear hcz61_4
            try clear hcz61_5
            try clear hcz64_0
            try clear hcz64_1
            try clear hcz64_2
            try clear hcz64_3
            try clear hcz64_4
            try clear hcz64_5
            try clear hcz66_0
            try clear hcz66_1
            try clear hcz66_2
            try clear hcz66_3
            try clear hcz66_4
            try clear hcz66_5
            try clear hcz70_0
            try clear hcz70_1
            try clear hcz70_2
            try clear hcz70_3
            try clear hcz70_4
            try clear hcz70_5
            try clear hcz73_0
            try clear hcz73_1
            try clear hcz73_2
            try clear hcz73_3
            try clear hcz73_4
            try clear hcz73_5
            try clear hcz75_0
            try clear hcz75_1
            try clear hcz75_2
            try clear hcz75_3
            try clear hcz75_4
            try clear hcz75_5
            try clear hcz78_0
            try clear hcz78_1
            try clear hcz78_2
            try clear hcz78_3
            try clear hcz78_4
            try clear hcz78_5
            try clear hcz7_0
            try clear hcz7_1
            try clear hcz7_2
            try clear hcz7_3
            try clear hcz7_4
            try clear hcz7_5
            try clear hfz11_0
            try clear hfz11_1
            try clear hfz11_2
            try clear hfz11_3
            try clear hfz11_4
            try clear hfz12_0
            try clear hfz12_1
            try clear hfz12_2
            try clear hfz12_3
            try clear hfz12_4
            try clear hfz12_5
            try clear hfz16_0
            try clear hfz16_1
            try clear hfz16_2
            try clear hfz16_3
            try clear hfz16_4
            try clear hfz16_5
            try clear hfz20_0
            try clear hfz20_1
            try clear hfz20_2
            try clear hfz20_3
            try clear hfz20_4
            try clear hfz21_0
            try clear hfz21_1
            try clear hfz21_2
            try clear hfz21_3
            try clear hfz21_4
            try clear hfz21_5
            try clear hfz25_0
            try clear hfz25_1
            try clear hfz25_2
            try clear hfz25_3
            try clear hfz25_4
            try clear hfz25_5
            try clear hfz26_0
            try clear hfz26_1
            try clear hfz26_2
            try clear hfz26_3
            try clear hfz26_4
            try clear hfz29_0
            try clear hfz29_1
            try clear hfz29_2
            try clear hfz29_3
            try clear hfz29_4
            try clear hfz29_5
            try clear hfz30_0
            try clear hfz30_1
            try clear hfz30_2
            try clear hfz30_3
            try clear hfz30_4
            try clear hfz32_0
            try clear hfz32_1
            try clear hfz32_2
            try clear hfz32_3
            try clear hfz32_4
            try clear hfz32_5
            try clear hfz33_0
            try clear hfz33_1
            try clear hfz33_2
            try clear hfz33_3
            try clear hfz33_4
            try clear hfz39_0
            try clear hfz39_1
            try clear hfz39_2
            try clear hfz39_3
            try clear hfz39_4
            try clear hfz39_5
            try clear hfz44_0
            try clear hfz44_1
            try clear hfz44_2
            try clear hfz44_3
            try clear hfz44_4
            try clear hfz44_5
            try clear hfz47_0
            try clear hfz47_1
            try clear hfz47_2
            try clear hfz47_3
            try clear hfz47_4
            try clear hfz47_5
            try clear hfz51_0
            try clear hfz51_1
            try clear hfz51_2
            try clear hfz51_3
            try clear hfz51_4
            try clear hfz51_5
            try clear hfz54_0
            try clear hfz54_1
            try clear hfz54_2
            try clear hfz54_3
            try clear hfz54_4
            try clear hfz54_5
            try clear hfz61_0
            try clear hfz61_1
            try clear hfz61_2
            try clear hfz61_3
            try clear hfz61_4
            try clear hfz61_5
            try clear hfz64_0
            try clear hfz64_1
            try clear hfz64_2
            try clear hfz64_3
            try clear hfz64_4
            try clear hfz64_5
            try clear hfz66_0
            try clear hfz66_1
            try clear hfz66_2
            try clear hfz66_3
            try clear hfz66_4
            try clear hfz66_5
            try clear hfz70_0
            try clear hfz70_1
            try clear hfz70_2
            try clear hfz70_3
            try clear hfz70_4
            try clear hfz70_5
            try clear hfz73_0
            try clear hfz73_1
            try clear hfz73_2
            try clear hfz73_3
            try clear hfz73_4
            try clear hfz73_5
            try clear hfz75_0
            try clear hfz75_1
            try clear hfz75_2
            try clear hfz75_3
            try clear hfz75_4
            try clear hfz75_5
            try clear hfz78_0
            try clear hfz78_1
            try clear hfz78_2
            try clear hfz78_3
            try clear hfz78_4
            try clear hfz78_5
            try clear hfz7_0
            try clear hfz7_1
            try clear hfz7_2
            try clear hfz7_3
            try clear hfz7_4
            try clear hfz7_5
            try clear p2
            obtain ⟨x77_2, rfl, HA, HK2, HO_75, BK117, BK124, HB⟩ := hrel
            cases gk with
            | zero => exact absurd HA.out (by simp [purl_Check.l0])
            | succ k2 =>
             have H := HA.out
             clear HA
             simp only [purl_Check.l0] at H
             by_cases c82 : x77_2 < (y136.length : Int)
             ·rw [if_pos c82] at H
              have c82b0 : decide (x77_2 < (y136.length : Int)) = true := zk c82
              clear c82
              by_cases c83 : 0 ≤ x77_2
              ·rw [if_pos c83] at H
               have c83b0 : decide (0 ≤ x77_2) = true := zk c83
               clear c83
               by_cases c84 : x77_2 < (y136.length : Int)
               ·rw [if_pos c84] at H
                have c84b0 : decide (x77_2 < (y136.length : Int)) = true := zk c84
                clear c84
                replace H := zu.mp H
                obtain ⟨t140, A850, H⟩ := H
                replace H : (if t140 = true then (some 8) else (purl_Check.l0 k2 y136 (y136.length : Int) (wrap64 (x77_2 + 1)) a0_0 a0_1 a0_2 a0_3 l0_4 a0_5)) = some r := H
                have A85 := Aside0.mk A850
                clear A850
                by_cases c86 : t140 = true
                ·subst c86
                 have H1 : (some 8) = some r := by rw [if_pos rfl] at H; exact H
                 clear H
                 have H := H1
                 clear H1
                 obtain rfl := Option.some.inj H
                 simp only [Option.some.injEq, Prod.mk.injEq] at H
                 obtain ⟨rfl⟩ := H
                 have p139 : 0 ≤ (x77_2 : Int) := zj (by first | (with_reducible assumption) | assumption)
                 have q139 : x77_2 < (y136.length : Int) := zj (by first | (with_reducible assumption) | assumption)
                 obtain ⟨ad139, e139, hx139_0⟩ := Kd.at_string (Kd.R_reads' HO_75.out).2.2 x77_2 p139 q139
                 cases e139
                 replace p139 := eq_true p139
                 replace q139 := eq_true q139
                 go_wp2_with (first | ((with_reducible refine gate_callee (f := 71) rfl ?_); refine goesL_ (some 82) rfl rfl Tryd.func71 (by kernel_rfl) rfl #[.string (rdOf ByteArray.empty y136 x77_2)] rfl (by (try simp only [List.map_toArray, List.map_cons, List.map_nil]); first | done | rfl | (simp only [List.length_drop, List.length_take]; rfl)) ?_; (with_reducible refine (purl_control.calls k2 (rdOf ByteArray.empty y136 x77_2) true _ A85.out).mono ?_); rintro e w' ⟨rfl, ⟨nd, rfl⟩⟩; refine ⟨_, rfl, ?_⟩))
                 go_ret
                 exact ⟨by first | rfl | (simp [errW_none, errW_some] <;> rfl) | (simp [*, errW_none, errW_some] <;> rfl), by repeat (first | (with_reducible first | exact HB.out | apply zd | apply zb | apply zc | refine zf ?_ GE117.out | refine zf ?_ GE124.out) | exact HB.out)⟩
                ·replace c86 := Bool.eq_false_iff.mpr c86
                 subst c86
                 have H1 : (purl_Check.l0 k2 y136 (y136.length : Int) (wrap64 (x77_2 + 1)) a0_0 a0_1 a0_2 a0_3 l0_4 a0_5) = some r := by rw [if_neg (show ¬ (false = true) by decide)] at H; exact H
                 clear H
                 have H := H1
                 clear H1
                 have H' := Aside0.mk H
                 clear H
                 have p139 : 0 ≤ (x77_2 : Int) := zj (by first | (with_reducible assumption) | assumption)
                 have q139 : x77_2 < (y136.length : Int) := zj (by first | (with_reducible assumption) | assumption)
                 obtain ⟨ad139, e139, hx139_0⟩ := Kd.at_string (Kd.R_reads' HO_75.out).2.2 x77_2 p139 q139
                 cases e139
                 replace p139 := eq_true p139
                 replace q139 := eq_true q139
                 go_wp2_with (first | ((with_reducible refine gate_callee (f := 71) rfl ?_); refine goesL_ (some 82) rfl rfl Tryd.func71 (by kernel_rfl) rfl #[.string (rdOf ByteArray.empty y136 x77_2)] rfl (by (try simp only [List.map_toArray, List.map_cons, List.map_nil]); first | done | rfl | (simp only [List.length_drop, List.length_take]; rfl)) ?_; (with_reducible refine (purl_control.calls k2 (rdOf ByteArray.empty y136 x77_2) false _ A85.out).mono ?_); rintro e w' ⟨rfl, ⟨nd, rfl⟩⟩; refine ⟨_, rfl, ?_⟩))
                 go_roundg k2
                 case measure => have := HJ13.out; have := HK2.out; omega
                 case rel => exact ⟨(wrap64 (x77_2 + 1)), (by first | rfl | (simp; done) | (simp [*]; done)), H', ⟨by have := HJ13.out; have := HK2.out; omega⟩, ⟨by (with_reducible repeat (first | apply zC | apply zB | apply zD)); exact HO_75.out⟩, ⟨by (with_reducible repeat (first | refine zg ?_ _ | refine zi ?_ | refine zh ?_ _)); exact BK117.out⟩, ⟨by (with_reducible repeat (first | refine zg ?_ _ | refine zi ?_ | refine zh ?_ _)); exact BK124.out⟩, ⟨by repeat (first | (with_reducible first | exact HB.out | apply zd | apply zb | apply zc | refine zf ?_ GE117.out | refine zf ?_ GE124.out) | exact HB.out)⟩⟩
               ·rw [if_neg c84] at H
                exact absurd H (by simp)
              ·rw [if_neg c83] at H
               exact absurd H (by simp)
             ·rw [if_neg c82] at H
              have c82b0 : decide (x77_2 < (y136.length : Int)) = false := zl c82
              clear c82
              have H' := Aside0.mk H
              clear H
              have hnb87 := NB117_124.out
              have hnc87 := NB124_117.out
              have hcz88_0 : wr.cell? ⟨gb117, 0, none⟩ = some (.string a0_0) := (ze BK117.out 0).trans rfl
              have hcz88_1 : wr.cell? ⟨gb117, 1, none⟩ = some (.string a0_1) := (ze BK117.out 1).trans rfl
              have hcz88_2 : wr.cell? ⟨gb117, 2, none⟩ = some (.string a0_2) := (ze BK117.out 2).trans rfl
              have hcz88_3 : wr.cell? ⟨gb117, 3, none⟩ = some (.string a0_3) := (ze BK117.out 3).trans rfl
              have hcz88_4 : wr.cell? ⟨gb117, 4, none⟩ = some (.slice A0_4 l0_4.length c0_4) := (ze BK117.out 4).trans rfl
              have hcz88_5 : wr.cell? ⟨gb117, 5, none⟩ = some (.string a0_5) := (ze BK117.out 5).trans rfl
              have hfz88_0 := za BK117.out 0
              have hfz88_1 := za BK117.out 1
              have hfz88_2 := za BK117.out 2
              have hfz88_3 := za BK117.out 3
              have hfz88_4 := za BK117.out 4
              have hfz88_5 := za BK117.out 5
              go_wp2
              go_loopg [87] k2 (fun kq v87 w' => ∃ (x87_3 : Int), v87 = .int .i64 x87_3 ∧ Aside0 (purl_Check.l1 kq l0_4 (l0_4.length : Int) x87_3 = some r) ∧ Aside0 (kq ≤ k2) ∧ Aside0 (w'.heap[gb117]? = some (.cells #[.string a0_0, .string a0_1, .string a0_2, .string a0_3, (.slice A0_4 l0_4.length c0_4), .string a0_5] 24 (0, 0))) ∧ Aside0 (w'.heap[gb124]? = some (.cells #[.string t118, .int .i64 t119, .bool t120, .bool t121, .int .i64 t122] 37 (0, 0))) ∧ Aside0 (Below w.heap.size w w'))
              case atStart => exact ⟨(0), (by first | rfl | (simp; done) | (simp [*]; done)), H', ⟨Nat.le_refl _⟩, ⟨by (with_reducible repeat (first | refine zg ?_ _ | refine zi ?_ | refine zh ?_ _)); exact BK117.out⟩, ⟨by (with_reducible repeat (first | refine zg ?_ _ | refine zi ?_ | refine zh ?_ _)); exact BK124.out⟩, ⟨by repeat (first | (with_reducible first | exact HB.out | apply zd | apply zb | apply zc | refine zf ?_ GE117.out | refine zf ?_ GE124.out) | exact HB.out)⟩⟩
              case round =>
               clear H'
               try clear c1
               try clear p1
               try clear q1
               try clear hx1
               try clear c2
               try clear p2
               try clear c3
               try clear c3b0
               try clear c3b1
               try clear c4
               try clear c5
               try clear c6
               try clear p6
               try clear c7
               try clear c8
               try clear c10
               try clear p13
               try clear q13
               try clear hx13
               try clear c17
               try clear c19
               try clear c23
               try clear c23b0
               try clear c23b1
               try clear c24
               try clear c26
               try clear c27
               try clear c27b0
               try clear c27b1
               try clear c28
               try clear c31
               try clear c34
               try clear c37
               try clear c38
               try clear c42
               try clear c42b0
               try clear c42b1
               try clear c43
               try clear c49
               try clear c49b0
               try clear c50
               try clear c56
               try clear c56b0
               try clear c56b1
               try clear c59
               try clear c60
               try clear p64
               try clear c66
               try clear c67
               try clear c68
               try clear c69
               try clear c70
               try clear c71
               try clear c82
               try clear c82b0
               try clear c83
               try clear c83b0
               try clear c84
               try clear c84b0
               try clear c86
               try clear c87
               try clear hcz11_0
               try clear hcz11_1
               try clear hcz11_2
               try clear hcz11_3
               try clear hcz11_4
               try clear hcz12_0
               try clear hcz12_1
               try clear hcz12_2
               try clear hcz12_3
               try clear hcz12_4
               try clear hcz12_5
               try clear hcz16_0
               try clear hcz16_1
               try clear hcz16_2
               try clear hcz16_3
               try clear hcz16_4
               try clear hcz16_5
               try clear hcz20_0
               try clear hcz20_1
               try clear hcz20_2
               try clear hcz20_3
               try clear hcz20_4
               try clear hcz21_0
               try clear hcz21_1
               try clear hcz21_2
               try clear hcz21_3
               try clear hcz21_4
               try clear hcz21_5
               try clear hcz25_0
               try clear hcz25_1
               try clear hcz25_2
               try clear hcz25_3
               try clear hcz25_4
               try clear hcz25_5
               try clear hcz26_0
               try clear hcz26_1
               try clear hcz26_2
               try clear hcz26_3
               try clear hcz26_4
               try clear hcz29_0
               try clear hcz29_1
               try clear hcz29_2
               try clear hcz29_3
               try clear hcz29_4
               try clear hcz29_5
               try clear hcz30_0
               try clear hcz30_1
               try clear hcz30_2
               try clear hcz30_3
               try clear hcz30_4
               try clear hcz32_0
               try clear hcz32_1
               try clear hcz32_2
               try clear hcz32_3
               try clear hcz32_4
               try clear hcz32_5
               try clear hcz33_0
               try clear hcz33_1
               try clear hcz33_2
               try clear hcz33_3
               try clear hcz33_4
               try clear hcz39_0
               try clear hcz39_1
               try clear hcz39_2
               try clear hcz39_3
               try clear hcz39_4
               try clear hcz39_5
               try clear hcz44_0
               try clear hcz44_1
               try clear hcz44_2
               try clear hcz44_3
               try clear hcz44_4
               try clear hcz44_5
               try clear hcz47_0
               try clear hcz47_1
               try clear hcz47_2
               try clear hcz47_3
               try clear hcz47_4
               try clear hcz47_5
               try clear hcz51_0
               try clear hcz51_1
               try clear hcz51_2
               try clear hcz51_3
               try clear hcz51_4
               try clear hcz51_5
               try clear hcz54_0
               try clear hcz54_1
               try clear hcz54_2
               try clear hcz54_3
               try clear hcz54_4
               try clear hcz54_5
               try clear hcz61_0
               try clear hcz61_1
               try clear hcz61_2
               try clear hcz61_3
               try clear hcz61_4
               try clear hcz61_5
               try clear hcz64_0
               try clear hcz64_1
               try clear hcz64_2
               try clear hcz64_3
               try clear hcz64_4
               try clear hcz64_5
               try clear hcz66_0
               try clear hcz66_1
               try clear hcz66_2
               try clear hcz66_3
               try clear hcz66_4
               try clear hcz66_5
               try clear hcz70_0
               try clear hcz70_1
               try clear hcz70_2
               try clear hcz70_3
               try clear hcz70_4
               try clear hcz70_5
               try clear hcz73_0
               try clear hcz73_1
               try clear hcz73_2
               try clear hcz73_3
               try clear hcz73_4
               try clear hcz73_5
               try clear hcz75_0
               try clear hcz75_1
               try clear hcz75_2
               try clear hcz75_3
               try clear hcz75_4
               try clear hcz75_5
               try clear hcz78_0
               try clear hcz78_1
               try clear hcz78_2
               try clear hcz78_3
               try clear hcz78_4
               try clear hcz78_5
               try clear hcz7_0
               try clear hcz7_1
               try clear hcz7_2
               try clear hcz7_3
               try clear hcz7_4
               try clear hcz7_5
               try clear hcz88_0
               try clear hcz88_1
               try clear hcz88_2
               try clear hcz88_3
               try clear hcz88_4
               try clear hcz88_5
               try clear hfz11_0
               try clear hfz11_1
               try clear hfz11_2
               try clear hfz11_3
               try clear hfz11_4
               try clear hfz12_0
               try clear hfz12_1
               try clear hfz12_2
               try clear hfz12_3
               try clear hfz12_4
               try clear hfz12_5
               try clear hfz16_0
               try clear hfz16_1
               try clear hfz16_2
               try clear hfz16_3
               try clear hfz16_4
               try clear hfz16_5
               try clear hfz20_0
               try clear hfz20_1
               try clear hfz20_2
               try clear hfz20_3
               try clear hfz20_4
               try clear hfz21_0
               try clear hfz21_1
               try clear hfz21_2
               try clear hfz21_3
               try clear hfz21_4
               try clear hfz21_5
               try clear hfz25_0
               try clear hfz25_1
               try clear hfz25_2
               try clear hfz25_3
               try clear hfz25_4
               try clear hfz25_5
               try clear hfz26_0
               try clear hfz26_1
               try clear hfz26_2
               try clear hfz26_3
               try clear hfz26_4
               try clear hfz29_0
               try clear hfz29_1
               try clear hfz29_2
               try clear hfz29_3
               try clear hfz29_4
               try clear hfz29_5
               try clear hfz30_0
               try clear hfz30_1
               try clear hfz30_2
               try clear hfz30_3
               try clear hfz30_4
               try clear hfz32_0
               try clear hfz32_1
               try clear hfz32_2
               try clear hfz32_3
               try clear hfz32_4
               try clear hfz32_5
               try clear hfz33_0
               try clear hfz33_1
               try clear hfz33_2
               try clear hfz33_3
               try clear hfz33_4
               try clear hfz39_0
               try clear hfz39_1
               try clear hfz39_2
               try clear hfz39_3
               try clear hfz39_4
               try clear hfz39_5
               try clear hfz44_0
               try clear hfz44_1
               try clear hfz44_2
               try clear hfz44_3
               try clear hfz44_4
               try clear hfz44_5
               try clear hfz47_0
               try clear hfz47_1
               try clear hfz47_2
               try clear hfz47_3
               try clear hfz47_4
               try clear hfz47_5
               try clear hfz51_0
               try clear hfz51_1
               try clear hfz51_2
               try clear hfz51_3
               try clear hfz51_4
               try clear hfz51_5
               try clear hfz54_0
               try clear hfz54_1
               try clear hfz54_2
               try clear hfz54_3
               try clear hfz54_4
               try clear hfz54_5
               try clear hfz61_0
               try clear hfz61_1
               try clear hfz61_2
               try clear hfz61_3
               try clear hfz61_4
               try clear hfz61_5
               try clear hfz64_0
               try clear hfz64_1
               try clear hfz64_2
               try clear hfz64_3
               try clear hfz64_4
               try clear hfz64_5
               try clear hfz66_0
               try clear hfz66_1
               try clear hfz66_2
               try clear hfz66_3
               try clear hfz66_4
               try clear hfz66_5
               try clear hfz70_0
               try clear hfz70_1
               try clear hfz70_2
               try clear hfz70_3
               try clear hfz70_4
               try clear hfz70_5
               try clear hfz73_0
               try clear hfz73_1
               try clear hfz73_2
               try clear hfz73_3
               try clear hfz73_4
               try clear hfz73_5
               try clear hfz75_0
               try clear hfz75_1
               try clear hfz75_2
               try clear hfz75_3
               try clear hfz75_4
               try clear hfz75_5
               try clear hfz78_0
               try clear hfz78_1
               try clear hfz78_2
               try clear hfz78_3
               try clear hfz78_4
               try clear hfz78_5
               try clear hfz7_0
               try clear hfz7_1
               try clear hfz7_2
               try clear hfz7_3
               try clear hfz7_4
               try clear hfz7_5
               try clear hfz88_0
               try clear hfz88_1
               try clear hfz88_2
               try clear hfz88_3
               try clear hfz88_4
               try clear hfz88_5
               try clear hx139_0
               try clear p139
               try clear p2
               try clear q139
               obtain ⟨x87_3, rfl, HA, HK3, BK117, BK124, HB⟩ := hrel
               cases gk with
               | zero => exact absurd HA.out (by simp [purl_Check.l1])
               | succ k3 =>
                have H := HA.out
                clear HA
                simp only [purl_Check.l1] at H
                by_cases c89 : x87_3 < (l0_4.length : Int)
                ·rw [if_pos c89] at H
                 have c89b0 : decide (x87_3 < (l0_4.length : Int)) = true := zk c89
                 clear c89
                 by_cases c90 : 0 ≤ x87_3
                 ·rw [if_pos c90] at H
                  have c90b0 : decide (0 ≤ x87_3) = true := zk c90
                  clear c90
                  by_cases c91 : x87_3 < (l0_4.length : Int)
                  ·rw [if_pos c91] at H
                   have c91b0 : decide (x87_3 < (l0_4.length : Int)) = true := zk c91
                   clear c91
                   replace H := zu.mp H
                   obtain ⟨t143, A920, H⟩ := H
                   replace H : (if t143 = true then (some 8) else (purl_Check.l1 k3 l0_4 (l0_4.length : Int) (wrap64 (x87_3 + 1)))) = some r := H
                   have A92 := Aside0.mk A920
                   clear A920
                   by_cases c93 : t143 = true
                   ·subst c93
                    have H1 : (some 8) = some r := by rw [if_pos rfl] at H; exact H
                    clear H
                    have H := H1
                    clear H1
                    obtain rfl := Option.some.inj H
                    simp only [Option.some.injEq, Prod.mk.injEq] at H
                    obtain ⟨rfl⟩ := H
                    have p141 : 0 ≤ (x87_3 : Int) := zj (by first | (with_reducible assumption) | assumption)
                    have q141 : x87_3 < (l0_4.length : Int) := zj (by first | (with_reducible assumption) | assumption)
                    obtain ⟨ad141, e141, hx141_0, hx141_1⟩ := at_T64 HR0_4.out x87_3 p141 q141
                    cases e141
                    replace hx141_0 := (HB.out.cell (World.block_lt_of_cell? w _ hx141_0)).trans hx141_0
                    replace hx141_1 := (HB.out.cell (World.block_lt_of_cell? w _ hx141_1)).trans hx141_1
                    replace p141 := eq_true p141
                    replace q141 := eq_true q141
                    go_wp2_with (first | ((with_reducible refine gate_dst (N := 9) rfl ?_); refine box_event ?hg (N := 9) ?hd (cs := #[.string (⟨#[]⟩ : ByteArray), .string (⟨#[]⟩ : ByteArray)]) (t := 64) ?hr ?_; (case hd => rfl); (case hg => rfl); (case hr => first | (go_simp; done) | (go_simp; rfl)); intro gb142 hg w94 hbox hb; have n0_ := Aside0.mk (zw (g := gb117) (o := .cells #[.string a0_0, .string a0_1, .string a0_2, .string a0_3, .slice (some ad141) l0_4.length c0_4, .string a0_5] 24 (0, 0)) (by (with_reducible repeat (first | refine zg ?_ _ | refine zi ?_ | refine zh ?_ _)); exact BK117.out) hb); have n1_ := Aside0.mk (zw (g := gb124) (o := .cells #[.string t118, .int .i64 t119, .bool t120, .bool t121, .int .i64 t122] 37 (0, 0)) (by (with_reducible repeat (first | refine zg ?_ _ | refine zi ?_ | refine zh ?_ _)); exact BK124.out) hb); have n2_ := Aside0.mk (zv (by repeat (first | (with_reducible first | exact HB.out | apply zd | apply zb | apply zc | refine zf ?_ GE117.out | refine zf ?_ GE124.out) | exact HB.out)) hb); have n3_ := Aside0.mk (hbox); have n4_ := Aside0.mk ((by rw [hg]; exact (zz (by repeat (first | (with_reducible first | exact HB.out | apply zd | apply zb | apply zc | refine zf ?_ GE117.out | refine zf ?_ GE124.out) | exact HB.out))) : w.heap.size ≤ gb142)); have n5_ := Aside0.mk ((by rw [hg]; exact (zz (by repeat (first | (with_reducible first | exact HB.out | apply zd | apply zb | apply zc | refine zf ?_ GE117.out | refine zf ?_ GE124.out) | exact HB.out))) : w.heap.size ≤ gb142)); have n6_ := Aside0.mk ((by rw [hg]; exact Nat.ne_of_lt (zA (g := gb117) (o := .cells #[.string a0_0, .string a0_1, .string a0_2, .string a0_3, .slice (some ad141) l0_4.length c0_4, .string a0_5] 24 (0, 0)) (by (with_reducible repeat (first | refine zg ?_ _ | refine zi ?_ | refine zh ?_ _)); exact BK117.out)) : gb117 ≠ gb142)); have n7_ := Aside0.mk ((by rw [hg]; exact Nat.ne_of_gt (zA (g := gb117) (o := .cells #[.string a0_0, .string a0_1, .string a0_2, .string a0_3, .slice (some ad141) l0_4.length c0_4, .string a0_5] 24 (0, 0)) (by (with_reducible repeat (first | refine zg ?_ _ | refine zi ?_ | refine zh ?_ _)); exact BK117.out)) : gb142 ≠ gb117)); have n8_ := Aside0.mk ((by rw [hg]; exact Nat.ne_of_lt (zA (g := gb124) (o := .cells #[.string t118, .int .i64 t119, .bool t120, .bool t121, .int .i64 t122] 37 (0, 0)) (by (with_reducible repeat (first | refine zg ?_ _ | refine zi ?_ | refine zh ?_ _)); exact BK124.out)) : gb124 ≠ gb142)); have n9_ := Aside0.mk ((by rw [hg]; exact Nat.ne_of_gt (zA (g := gb124) (o := .cells #[.string t118, .int .i64 t119, .bool t120, .bool t121, .int .i64 t122] 37 (0, 0)) (by (with_reducible repeat (first | refine zg ?_ _ | refine zi ?_ | refine zh ?_ _)); exact BK124.out)) : gb142 ≠ gb124)); clear BK117; clear BK124; clear HB; have BK117 := n0_; have BK124 := n1_; have HB := n2_; have BK142 := n3_; have GW142 := n4_; have GE142 := n5_; have NB117_142 := n6_; have NB142_117 := n7_; have NB124_142 := n8_; have NB142_124 := n9_; clear n0_ n1_ n2_ n3_ n4_ n5_ n6_ n7_ n8_ n9_; clear hb hbox hg; have hnb95 := NB142_117.out; have hnc95 := NB117_142.out; have hnb96 := NB142_124.out; have hnc96 := NB124_142.out; have hcz97_0 : w94.cell? ⟨gb142, 0, none⟩ = some (.string (⟨#[]⟩ : ByteArray)) := (ze BK142.out 0).trans rfl; have hcz97_1 : w94.cell? ⟨gb142, 1, none⟩ = some (.string (⟨#[]⟩ : ByteArray)) := (ze BK142.out 1).trans rfl; have hfz97_0 := za BK142.out 0; have hfz97_1 := za BK142.out 1) | ((with_reducible refine gate_callee (f := 71) rfl ?_); refine goesL_ (some 93) rfl rfl Tryd.func71 (by kernel_rfl) rfl #[.string ((rd_T64 l0_4 x87_3).f1)] rfl (by (try simp only [List.map_toArray, List.map_cons, List.map_nil]); first | done | rfl | (simp only [List.length_drop, List.length_take]; rfl)) ?_; (with_reducible refine (purl_control.calls k3 ((rd_T64 l0_4 x87_3).f1) true _ A92.out).mono ?_); rintro e w' ⟨rfl, ⟨nd, rfl⟩⟩; refine ⟨_, rfl, ?_⟩))
                    go_ret
                    exact ⟨by first | rfl | (simp [errW_none, errW_some] <;> rfl) | (simp [*, errW_none, errW_some] <;> rfl), by repeat (first | (with_reducible first | exact HB.out | apply zd | apply zb | apply zc | refine zf ?_ GE117.out | refine zf ?_ GE124.out | refine zf ?_ GE142.out) | exact HB.out)⟩
                   ·replace c93 := Bool.eq_false_iff.mpr c93
                    subst c93
                    have H1 : (purl_Check.l1 k3 l0_4 (l0_4.length : Int) (wrap64 (x87_3 + 1))) = some r := by rw [if_neg (show ¬ (false = true) by decide)] at H; exact H
                    clear H
                    have H := H1
                    clear H1
                    have H' := Aside0.mk H
                    clear H
                    have p141 : 0 ≤ (x87_3 : Int) := zj (by first | (with_reducible assumption) | assumption)
                    have q141 : x87_3 < (l0_4.length : Int) := zj (by first | (with_reducible assumption) | assumption)
                    obtain ⟨ad141, e141, hx141_0, hx141_1⟩ := at_T64 HR0_4.out x87_3 p141 q141
                    cases e141
                    replace hx141_0 := (HB.out.cell (World.block_lt_of_cell? w _ hx141_0)).trans hx141_0
                    replace hx141_1 := (HB.out.cell (World.block_lt_of_cell? w _ hx141_1)).trans hx141_1
                    replace p141 := eq_true p141
                    replace q141 := eq_true q141
                    go_wp2_with (first | ((with_reducible refine gate_dst (N := 9) rfl ?_); refine box_event ?hg (N := 9) ?hd (cs := #[.string (⟨#[]⟩ : ByteArray), .string (⟨#[]⟩ : ByteArray)]) (t := 64) ?hr ?_; (case hd => rfl); (case hg => rfl); (case hr => first | (go_simp; done) | (go_simp; rfl)); intro gb142 hg w98 hbox hb; have n0_ := Aside0.mk (zw (g := gb117) (o := .cells #[.string a0_0, .string a0_1, .string a0_2, .string a0_3, .slice (some ad141) l0_4.length c0_4, .string a0_5] 24 (0, 0)) (by (with_reducible repeat (first | refine zg ?_ _ | refine zi ?_ | refine zh ?_ _)); exact BK117.out) hb); have n1_ := Aside0.mk (zw (g := gb124) (o := .cells #[.string t118, .int .i64 t119, .bool t120, .bool t121, .int .i64 t122] 37 (0, 0)) (by (with_reducible repeat (first | refine zg ?_ _ | refine zi ?_ | refine zh ?_ _)); exact BK124.out) hb); have n2_ := Aside0.mk (zv (by repeat (first | (with_reducible first | exact HB.out | apply zd | apply zb | apply zc | refine zf ?_ GE117.out | refine zf ?_ GE124.out) | exact HB.out)) hb); have n3_ := Aside0.mk (hbox); have n4_ := Aside0.mk ((by rw [hg]; exact (zz (by repeat (first | (with_reducible first | exact HB.out | apply zd | apply zb | apply zc | refine zf ?_ GE117.out | refine zf ?_ GE124.out) | exact HB.out))) : w.heap.size ≤ gb142)); have n5_ := Aside0.mk ((by rw [hg]; exact (zz (by repeat (first | (with_reducible first | exact HB.out | apply zd | apply zb | apply zc | refine zf ?_ GE117.out | refine zf ?_ GE124.out) | exact HB.out))) : w.heap.size ≤ gb142)); have n6_ := Aside0.mk ((by rw [hg]; exact Nat.ne_of_lt (zA (g := gb117) (o := .cells #[.string a0_0, .string a0_1, .string a0_2, .string a0_3, .slice (some ad141) l0_4.length c0_4, .string a0_5] 24 (0, 0)) (by (with_reducible repeat (first | refine zg ?_ _ | refine zi ?_ | refine zh ?_ _)); exact BK117.out)) : gb117 ≠ gb142)); have n7_ := Aside0.mk ((by rw [hg]; exact Nat.ne_of_gt (zA (g := gb117) (o := .cells #[.string a0_0, .string a0_1, .string a0_2, .string a0_3, .slice (some ad141) l0_4.length c0_4, .string a0_5] 24 (0, 0)) (by (with_reducible repeat (first | refine zg ?_ _ | refine zi ?_ | refine zh ?_ _)); exact BK117.out)) : gb142 ≠ gb117)); have n8_ := Aside0.mk ((by rw [hg]; exact Nat.ne_of_lt (zA (g := gb124) (o := .cells #[.string t118, .int .i64 t119, .bool t120, .bool t121, .int .i64 t122] 37 (0, 0)) (by (with_reducible repeat (first | refine zg ?_ _ | refine zi ?_ | refine zh ?_ _)); exact BK124.out)) : gb124 ≠ gb142)); have n9_ := Aside0.mk ((by rw [hg]; exact Nat.ne_of_gt (zA (g := gb124) (o := .cells #[.string t118, .int .i64 t119, .bool t120, .bool t121, .int .i64 t122] 37 (0, 0)) (by (with_reducible repeat (first | refine zg ?_ _ | refine zi ?_ | refine zh ?_ _)); exact BK124.out)) : gb142 ≠ gb124)); clear BK117; clear BK124; clear HB; have BK117 := n0_; have BK124 := n1_; have HB := n2_; have BK142 := n3_; have GW142 := n4_; have GE142 := n5_; have NB117_142 := n6_; have NB142_117 := n7_; have NB124_142 := n8_; have NB142_124 := n9_; clear n0_ n1_ n2_ n3_ n4_ n5_ n6_ n7_ n8_ n9_; clear hb hbox hg; have hnb99 := NB142_117.out; have hnc99 := NB117_142.out; have hnb100 := NB142_124.out; have hnc100 := NB124_142.out; have hcz101_0 : w98.cell? ⟨gb142, 0, none⟩ = some (.string (⟨#[]⟩ : ByteArray)) := (ze BK142.out 0).trans rfl; have hcz101_1 : w98.cell? ⟨gb142, 1, none⟩ = some (.string (⟨#[]⟩ : ByteArray)) := (ze BK142.out 1).trans rfl; have hfz101_0 := za BK142.out 0; have hfz101_1 := za BK142.out 1) | ((with_reducible refine gate_callee (f := 71) rfl ?_); refine goesL_ (some 93) rfl rfl Tryd.func71 (by kernel_rfl) rfl #[.string ((rd_T64 l0_4 x87_3).f1)] rfl (by (try simp only [List.map_toArray, List.map_cons, List.map_nil]); first | done | rfl | (simp only [List.length_drop, List.length_take]; rfl)) ?_; (with_reducible refine (purl_control.calls k3 ((rd_T64 l0_4 x87_3).f1) false _ A92.out).mono ?_); rintro e w' ⟨rfl, ⟨nd, rfl⟩⟩; refine ⟨_, rfl, ?_⟩))
                    go_roundg k3
                    case measure => have := HJ13.out; have := HK2.out; have := HK3.out; omega
                    case rel => exact ⟨(wrap64 (x87_3 + 1)), (by first | rfl | (simp; done) | (simp [*]; done)), H', ⟨by have := HJ13.out; have := HK2.out; have := HK3.out; omega⟩, ⟨by (with_reducible repeat (first | refine zg ?_ _ | refine zi ?_ | refine zh ?_ _)); refine zx ?_ NB117_142.out _; (with_reducible repeat (first | refine zg ?_ _ | refine zi ?_ | refine zh ?_ _)); refine zx ?_ NB117_142.out _; (with_reducible repeat (first | refine zg ?_ _ | refine zi ?_ | refine zh ?_ _)); exact BK117.out⟩, ⟨by (with_reducible repeat (first | refine zg ?_ _ | refine zi ?_ | refine zh ?_ _)); refine zx ?_ NB124_142.out _; (with_reducible repeat (first | refine zg ?_ _ | refine zi ?_ | refine zh ?_ _)); refine zx ?_ NB124_142.out _; (with_reducible repeat (first | refine zg ?_ _ | refine zi ?_ | refine zh ?_ _)); exact BK124.out⟩, ⟨by repeat (first | (with_reducible first | exact HB.out | apply zd | apply zb | apply zc | refine zf ?_ GE117.out | refine zf ?_ GE124.out | refine zf ?_ GE142.out) | exact HB.out)⟩⟩
                  ·rw [if_neg c91] at H
                   exact absurd H (by simp)
                 ·rw [if_neg c90] at H
                  exact absurd H (by simp)
                ·rw [if_neg c89] at H
                 have c89b0 : decide (x87_3 < (l0_4.length : Int)) = false := zl c89
                 clear c89
                 obtain rfl := Option.some.inj H
                 simp only [Option.some.injEq, Prod.mk.injEq] at H
                 obtain ⟨rfl⟩ := H
                 go_wp2
                 go_ret
                 exact ⟨by first | rfl | (simp [errW_none, errW_some] <;> rfl) | (simp [*, errW_none, errW_some] <;> rfl), by repeat (first | (with_reducible first | exact HB.out | apply zd | apply zb | apply zc | refine zf ?_ GE117.out | refine zf ?_ GE124.out) | exact HB.out)⟩
         ·rw [if_neg c56] at H
          have c56b0 : (t131 == 0) = false := beq_eq_false_iff_ne.mpr c56
          have c56b1 : (t131 != 0) = true := bne_iff_ne.mpr c56
          obtain rfl := Option.some.inj H
          simp only [Option.some.injEq, Prod.mk.injEq] at H
          obtain ⟨rfl⟩ := H
          have hnb102 := NB117_124.out
          have hnc102 := NB124_117.out
          have hcz103_0 : wc.cell? ⟨gb117, 0, none⟩ = some (.string a0_0) := (ze BK117.out 0).trans rfl
          have hcz103_1 : wc.cell? ⟨gb117, 1, none⟩ = some (.string a0_1) := (ze BK117.out 1).trans rfl
          have hcz103_2 : wc.cell? ⟨gb117, 2, none⟩ = some (.string a0_2) := (ze BK117.out 2).trans rfl
          have hcz103_3 : wc.cell? ⟨gb117, 3, none⟩ = some (.string a0_3) := (ze BK117.out 3).trans rfl
          have hcz103_4 : wc.cell? ⟨gb117, 4, none⟩ = some (.slice A0_4 l0_4.length c0_4) := (ze BK117.out 4).trans rfl
          have hcz103_5 : wc.cell? ⟨gb117, 5, none⟩ = some (.string a0_5) := (ze BK117.out 5).trans rfl
          have hfz103_0 := za BK117.out 0
          have hfz103_1 := za BK117.out 1
          have hfz103_2 := za BK117.out 2
          have hfz103_3 := za BK117.out 3
          have hfz103_4 := za BK117.out 4
          have hfz103_5 := za BK117.out 5
          go_wp2_with (first | ((with_reducible refine gate_callee (f := 68) rfl ?_); refine goesL_ (some 45) rfl rfl Tryd.func68 (by kernel_rfl) rfl #[.string a0_1] rfl (by (try simp only [List.map_toArray, List.map_cons, List.map_nil]); first | done | rfl | (simp only [List.length_drop, List.length_take]; rfl)) ?_; (with_reducible refine (purl_segments.calls a0_1 t126 _ A35.out).mono ?_); rintro e w104 ⟨v127, rfl, ho0, hb⟩; refine ⟨_, rfl, ?_⟩; have n0_ := Aside0.mk (Kd.R_lower ho0 (zz (by repeat (first | (with_reducible first | exact HB.out | apply zd | apply zb | apply zc | refine zf ?_ GE117.out | refine zf ?_ GE124.out) | exact HB.out)))); have n1_ := Aside0.mk (zw (g := gb117) (o := .cells #[.string a0_0, .string a0_1, .string a0_2, .string a0_3, .slice A0_4 l0_4.length c0_4, .string a0_5] 24 (0, 0)) (by (with_reducible repeat (first | refine zg ?_ _ | refine zi ?_ | refine zh ?_ _)); exact BK117.out) hb); have n2_ := Aside0.mk (zw (g := gb124) (o := .cells #[.string t118, .int .i64 t119, .bool t120, .bool t121, .int .i64 t122] 37 (0, 0)) (by (with_reducible repeat (first | refine zg ?_ _ | refine zi ?_ | refine zh ?_ _)); exact BK124.out) hb); have n3_ := Aside0.mk (zv (by repeat (first | (with_reducible first | exact HB.out | apply zd | apply zb | apply zc | refine zf ?_ GE117.out | refine zf ?_ GE124.out) | exact HB.out)) hb); clear BK117; clear BK124; clear HB; have HO128 := n0_; have BK117 := n1_; have BK124 := n2_; have HB := n3_; clear n0_ n1_ n2_ n3_; (try clear hb); (try clear hb2); (try clear hk); (try clear hi); (try clear ho0); obtain ⟨Ao105, co105, eo105⟩ := Kd.R_slice HO128.out; subst eo105) | ((with_reducible refine gate_callee (f := 67) rfl ?_); refine goesL_ (some 46) rfl rfl Tryd.func67 (by kernel_rfl) rfl #[.slice Ao105 t126.length co105, .bool false] rfl (by (try simp only [List.map_toArray, List.map_cons, List.map_nil]); first | done | rfl | (simp only [List.length_drop, List.length_take]; rfl)) ?_; (with_reducible refine (purl_pathFault.calls kj13 _ _ t126 false false _ ?side1 ?side2 A36.out).mono ?_); (case side1 => repeat (first | exact (Kd.R_reads' HO128.out).2.2 | (with_reducible refine zF ?_ _) | (with_reducible refine zE ?_ _) | (with_reducible refine zG ?_))); (case side2 => exact (Kd.R_reads' HO128.out).2.1); rintro e w' ⟨rfl, ⟨nd, rfl⟩⟩; refine ⟨_, rfl, ?_⟩; have hcz106_0 : w104.cell? ⟨gb117, 0, none⟩ = some (.string a0_0) := (ze BK117.out 0).trans rfl; have hcz106_1 : w104.cell? ⟨gb117, 1, none⟩ = some (.string a0_1) := (ze BK117.out 1).trans rfl; have hcz106_2 : w104.cell? ⟨gb117, 2, none⟩ = some (.string a0_2) := (ze BK117.out 2).trans rfl; have hcz106_3 : w104.cell? ⟨gb117, 3, none⟩ = some (.string a0_3) := (ze BK117.out 3).trans rfl; have hcz106_4 : w104.cell? ⟨gb117, 4, none⟩ = some (.slice A0_4 l0_4.length c0_4) := (ze BK117.out 4).trans rfl; have hcz106_5 : w104.cell? ⟨gb117, 5, none⟩ = some (.string a0_5) := (ze BK117.out 5).trans rfl; have hfz106_0 := za BK117.out 0; have hfz106_1 := za BK117.out 1; have hfz106_2 := za BK117.out 2; have hfz106_3 := za BK117.out 3; have hfz106_4 := za BK117.out 4; have hfz106_5 := za BK117.out 5) | (go_at_call 69; (with_reducible refine (lib_IndexByte.calls a0_2 47 t130 _ A48.out).mono ?_); rintro e w' ⟨rfl, ⟨nd, rfl⟩⟩) | ((with_reducible refine gate_callee (f := 70) rfl ?_); refine goesL_ (some 59) rfl rfl Tryd.func70 (by kernel_rfl) rfl #[.slice A0_4 l0_4.length c0_4] rfl (by (try simp only [List.map_toArray, List.map_cons, List.map_nil]); first | done | rfl | (simp only [List.length_drop, List.length_take]; rfl)) ?_; (with_reducible refine (purl_checkQualifiers.calls kj13 _ _ l0_4 t131 _ ?side1 ?side2 A55.out).mono ?_); (case side1 => repeat (first | exact (Kd.C_below HR0_4.out (by repeat (first | (with_reducible first | exact HB.out | apply zd | apply zb | apply zc | refine zf ?_ GE117.out | refine zf ?_ GE124.out) | exact HB.out))) | (with_reducible refine zF ?_ _) | (with_reducible refine zE ?_ _) | (with_reducible refine zG ?_))); (case side2 => exact HC0_4.out); rintro e w107 ⟨rfl, hb⟩; refine ⟨_, rfl, ?_⟩; have n0_ := Aside0.mk (Kd.R_below (by (with_reducible repeat (first | apply zC | apply zB | apply zD)); exact HO128.out) hb); have n1_ := Aside0.mk (zw (g := gb117) (o := .cells #[.string a0_0, .string a0_1, .string a0_2, .string a0_3, .slice A0_4 l0_4.length c0_4, .string a0_5] 24 (0, 0)) (by (with_reducible repeat (first | refine zg ?_ _ | refine zi ?_ | refine zh ?_ _)); exact BK117.out) hb); have n2_ := Aside0.mk (zw (g := gb124) (o := .cells #[.string t118, .int .i64 t119, .bool t120, .bool t121, .int .i64 t122] 37 (0, 0)) (by (with_reducible repeat (first | refine zg ?_ _ | refine zi ?_ | refine zh ?_ _)); exact BK124.out) hb); have n3_ := Aside0.mk (zv (by repeat (first | (with_reducible first | exact HB.out | apply zd | apply zb | apply zc | refine zf ?_ GE117.out | refine zf ?_ GE124.out) | exact HB.out)) hb); clear HO128; clear BK117; clear BK124; clear HB; have HO128 := n0_; have BK117 := n1_; have BK124 := n2_; have HB := n3_; clear n0_ n1_ n2_ n3_; (try clear hb); (try clear hb2); (try clear hk); (try clear hi)))
          go_ret
          exact ⟨by first | rfl | (simp [errW_none, errW_some] <;> rfl) | (simp [*, errW_none, errW_some] <;> rfl), by repeat (first | (with_reducible first | exact HB.out | apply zd | apply zb | apply zc | refine zf ?_ GE117.out | refine zf ?_ GE124.out) | exact HB.out)⟩
 ·rw [if_neg c3] at H
  have c3b0 : (t123 == 0) = false := beq_eq_false_iff_ne.mpr c3
  have c3b1 : (t123 != 0) = true := bne_iff_ne.mpr c3
  obtain rfl := Option.some.inj H
  simp only [Option.some.injEq, Prod.mk.injEq] at H
  obtain ⟨rfl⟩ := H
  go_enter Tryd.func26, Tryd.ntmps26
  go_wp2_with (first | ((with_reducible refine gate_dst (N := 1) rfl ?_); refine box_event ?hg (N := 1) ?hd (cs := #[.string a0_0, .string a0_1, .string a0_2, .string a0_3, .slice A0_4 l0_4.length c0_4, .string a0_5]) (t := 24) ?hr ?_; (case hd => rfl); (case hg => rfl); (case hr => first | (go_simp; done) | (go_simp; rfl)); intro gb117 hg w108 hbox hb; have n0_ := Aside0.mk (zv (by repeat (first | (with_reducible first | exact HB.out | apply zd | apply zb | apply zc) | exact HB.out)) hb); have n1_ := Aside0.mk (hbox); have n2_ := Aside0.mk ((by rw [hg]; exact (zz (by repeat (first | (with_reducible first | exact HB.out | apply zd | apply zb | apply zc) | exact HB.out))) : w.heap.size ≤ gb117)); have n3_ := Aside0.mk ((by rw [hg]; exact (zz (by repeat (first | (with_reducible first | exact HB.out | apply zd | apply zb | apply zc) | exact HB.out))) : w.heap.size ≤ gb117)); clear HB; have HB := n0_; have BK117 := n1_; have GW117 := n2_; have GE117 := n3_; clear n0_ n1_ n2_ n3_; clear hb hbox hg; have hcz109_0 : w108.cell? ⟨gb117, 0, none⟩ = some (.string a0_0) := (ze BK117.out 0).trans rfl; have hcz109_1 : w108.cell? ⟨gb117, 1, none⟩ = some (.string a0_1) := (ze BK117.out 1).trans rfl; have hcz109_2 : w108.cell? ⟨gb117, 2, none⟩ = some (.string a0_2) := (ze BK117.out 2).trans rfl; have hcz109_3 : w108.cell? ⟨gb117, 3, none⟩ = some (.string a0_3) := (ze BK117.out 3).trans rfl; have hcz109_4 : w108.cell? ⟨gb117, 4, none⟩ = some (.slice A0_4 l0_4.length c0_4) := (ze BK117.out 4).trans rfl; have hcz109_5 : w108.cell? ⟨gb117, 5, none⟩ = some (.string a0_5) := (ze BK117.out 5).trans rfl; have hfz109_0 := za BK117.out 0; have hfz109_1 := za BK117.out 1; have hfz109_2 := za BK117.out 2; have hfz109_3 := za BK117.out 3; have hfz109_4 := za BK117.out 4; have hfz109_5 := za BK117.out 5) | ((with_reducible refine gate_callee (f := 17) rfl ?_); refine goesL_ (some 13) rfl rfl Tryd.func17 (by kernel_rfl) rfl #[.string a0_0] rfl (by (try simp only [List.map_toArray, List.map_cons, List.map_nil]); first | done | rfl | (simp only [List.length_drop, List.length_take]; rfl)) ?_; (with_reducible refine (purl_Rule.calls a0_0 t118 t119 t120 t121 t122 t123 _ A2.out).mono ?_); rintro e w110 ⟨rfl, hb⟩; refine ⟨_, rfl, ?_⟩; have n0_ := Aside0.mk (zw (g := gb117) (o := .cells #[.string a0_0, .string a0_1, .string a0_2, .string a0_3, .slice A0_4 l0_4.length c0_4, .string a0_5] 24 (0, 0)) (by (with_reducible repeat (first | refine zg ?_ _ | refine zi ?_ | refine zh ?_ _)); exact BK117.out) hb); have n1_ := Aside0.mk (zv (by repeat (first | (with_reducible first | exact HB.out | apply zd | apply zb | apply zc | refine zf ?_ GE117.out) | exact HB.out)) hb); clear BK117; clear HB; have BK117 := n0_; have HB := n1_; clear n0_ n1_; (try clear hb); (try clear hb2); (try clear hk); (try clear hi)) | ((with_reducible refine gate_dst (N := 3) rfl ?_); refine box_event ?hg (N := 3) ?hd (cs := #[.string (⟨#[]⟩ : ByteArray), .int .i64 0, .bool false, .bool false, .int .i64 0]) (t := 37) ?hr ?_; (case hd => rfl); (case hg => rfl); (case hr => first | (go_simp; done) | (go_simp; rfl)); intro gb124 hg w111 hbox hb; have n0_ := Aside0.mk (zw (g := gb117) (o := .cells #[.string a0_0, .string a0_1, .string a0_2, .string a0_3, .slice A0_4 l0_4.length c0_4, .string a0_5] 24 (0, 0)) (by (with_reducible repeat (first | refine zg ?_ _ | refine zi ?_ | refine zh ?_ _)); exact BK117.out) hb); have n1_ := Aside0.mk (zv (by repeat (first | (with_reducible first | exact HB.out | apply zd | apply zb | apply zc | refine zf ?_ GE117.out) | exact HB.out)) hb); have n2_ := Aside0.mk (hbox); have n3_ := Aside0.mk ((by rw [hg]; exact (zz (by repeat (first | (with_reducible first | exact HB.out | apply zd | apply zb | apply zc | refine zf ?_ GE117.out) | exact HB.out))) : w.heap.size ≤ gb124)); have n4_ := Aside0.mk ((by rw [hg]; exact (zz (by repeat (first | (with_reducible first | exact HB.out | apply zd | apply zb | apply zc | refine zf ?_ GE117.out) | exact HB.out))) : w.heap.size ≤ gb124)); have n5_ := Aside0.mk ((by rw [hg]; exact Nat.ne_of_lt (zA (g := gb117) (o := .cells #[.string a0_0, .string a0_1, .string a0_2, .string a0_3, .slice A0_4 l0_4.length c0_4, .string a0_5] 24 (0, 0)) (by (with_reducible repeat (first | refine zg ?_ _ | refine zi ?_ | refine zh ?_ _)); exact BK117.out)) : gb117 ≠ gb124)); have n6_ := Aside0.mk ((by rw [hg]; exact Nat.ne_of_gt (zA (g := gb117) (o := .cells #[.string a0_0, .string a0_1, .string a0_2, .string a0_3, .slice A0_4 l0_4.length c0_4, .string a0_5] 24 (0, 0)) (by (with_reducible repeat (first | refine zg ?_ _ | refine zi ?_ | refine zh ?_ _)); exact BK117.out)) : gb124 ≠ gb117)); clear BK117; clear HB; have BK117 := n0_; have HB := n1_; have BK124 := n2_; have GW124 := n3_; have GE124 := n4_; have NB117_124 := n5_; have NB124_117 := n6_; clear n0_ n1_ n2_ n3_ n4_ n5_ n6_; clear hb hbox hg; have hnb112 := NB124_117.out; have hnc112 := NB117_124.out; have hcz113_0 : w111.cell? ⟨gb124, 0, none⟩ = some (.string (⟨#[]⟩ : ByteArray)) := (ze BK124.out 0).trans rfl; have hcz113_1 : w111.cell? ⟨gb124, 1, none⟩ = some (.int .i64 0) := (ze BK124.out 1).trans rfl; have hcz113_2 : w111.cell? ⟨gb124, 2, none⟩ = some (.bool false) := (ze BK124.out 2).trans rfl; have hcz113_3 : w111.cell? ⟨gb124, 3, none⟩ = some (.bool false) := (ze BK124.out 3).trans rfl; have hcz113_4 : w111.cell? ⟨gb124, 4, none⟩ = some (.int .i64 0) := (ze BK124.out 4).trans rfl; have hfz113_0 := za BK124.out 0; have hfz113_1 := za BK124.out 1; have hfz113_2 := za BK124.out 2; have hfz113_3 := za BK124.out 3; have hfz113_4 := za BK124.out 4))
  go_ret
  exact ⟨by first | rfl | (simp [errW_none, errW_some] <;> rfl) | (simp [*, errW_none, errW_some] <;> rfl), by repeat (first | (with_reducible first | exact HB.out | apply zd | apply zb | apply zc | refine zf ?_ GE117.out | refine zf ?_ GE124.out) | exact HB.out)⟩
end Go.Proofs.YtmnfjbmhlabdaaaDoor.Pr
