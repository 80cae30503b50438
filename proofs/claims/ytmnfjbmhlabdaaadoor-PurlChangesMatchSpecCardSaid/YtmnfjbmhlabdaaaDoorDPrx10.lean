-- Written by a program of the session (wip/pr.py) out of the translation; Lean checks it.
import Derived.Test.YtmnfjbmhlabdaaaDoorDXa
import Derived.Test.YtmnfjbmhlabdaaaDoorDPrx0
import Derived.Test.YtmnfjbmhlabdaaaDoorDPrx3
import Derived.Test.YtmnfjbmhlabdaaaDoorDPrx9
import Derived.Test.YtmnfjbmhlabdaaaDoorDEe
import Derived.Test.YtmnfjbmhlabdaaaDoorDEn
namespace Go.Proofs.YtmnfjbmhlabdaaaDoor.Pr
open Go.RowKit Go.Proofs.YtmnfjbmhlabdaaaDoorW.PrintWords Go.Proofs.YtmnfjbmhlabdaaaDoorW.PrintLast Go.Proofs.YtmnfjbmhlabdaaaDoorW.PrintMore
attribute [local go_sem] max2_int min2_int max_two min_two max_three min_three max_four min_four
set_option linter.unusedVariables false
set_option linter.unusedSimpArgs false
mutual
def purl_Print.j0 : Nat → ByteArray → ByteArray → ByteArray → ByteArray → ByteArray → List (S64) → ByteArray → Option (ByteArray × Int)
 | 0, _, _, _, _, _, _, _ => none
 | k + 1, x5, x311000, x311001, x311002, x311003, x311004, x311005 => purl_Print.l0 k x5 x311004 (x311004.length : Int) 0 x311000 x311001 x311002 x311003 x311004 x311005
def purl_Print.l0 : Nat → ByteArray → List (S64) → Int → Int → ByteArray → ByteArray → ByteArray → ByteArray → List (S64) → ByteArray → Option (ByteArray × Int)
 | 0, _, _, _, _, _, _, _, _, _, _ => none
 | k + 1, x5, x28, x29, x30, x311000, x311001, x311002, x311003, x311004, x311005 => if x30 < x29 then (if 0 ≤ x30 then (if x30 < (x28.length : Int) then (if x30 = 0 then (if 1 + ((rd_T64 x28 x30).f0).size ≤ 9223372036854775807 then (if ((⟨#[63]⟩ : ByteArray) ++ ((rd_T64 x28 x30).f0)).size + 1 ≤ 9223372036854775807 then ((purl_escaped.f ((rd_T64 x28 x30).f1)).bind fun t324 => (if (((⟨#[63]⟩ : ByteArray) ++ ((rd_T64 x28 x30).f0)) ++ (⟨#[61]⟩ : ByteArray)).size + t324.size ≤ 9223372036854775807 then (if x5.size + ((((⟨#[63]⟩ : ByteArray) ++ ((rd_T64 x28 x30).f0)) ++ (⟨#[61]⟩ : ByteArray)) ++ t324).size ≤ 9223372036854775807 then (purl_Print.l0 k (x5 ++ ((((⟨#[63]⟩ : ByteArray) ++ ((rd_T64 x28 x30).f0)) ++ (⟨#[61]⟩ : ByteArray)) ++ t324)) x28 x29 (wrap64 (x30 + 1)) x311000 x311001 x311002 x311003 x311004 x311005) else (none)) else (none))) else (none)) else (none)) else (if 1 + ((rd_T64 x28 x30).f0).size ≤ 9223372036854775807 then (if ((⟨#[38]⟩ : ByteArray) ++ ((rd_T64 x28 x30).f0)).size + 1 ≤ 9223372036854775807 then ((purl_escaped.f ((rd_T64 x28 x30).f1)).bind fun t325 => (if (((⟨#[38]⟩ : ByteArray) ++ ((rd_T64 x28 x30).f0)) ++ (⟨#[61]⟩ : ByteArray)).size + t325.size ≤ 9223372036854775807 then (if x5.size + ((((⟨#[38]⟩ : ByteArray) ++ ((rd_T64 x28 x30).f0)) ++ (⟨#[61]⟩ : ByteArray)) ++ t325).size ≤ 9223372036854775807 then (purl_Print.l0 k (x5 ++ ((((⟨#[38]⟩ : ByteArray) ++ ((rd_T64 x28 x30).f0)) ++ (⟨#[61]⟩ : ByteArray)) ++ t325)) x28 x29 (wrap64 (x30 + 1)) x311000 x311001 x311002 x311003 x311004 x311005) else (none)) else (none))) else (none)) else (none))) else (none)) else (none)) else (if x311005.toList = ([] : List UInt8) then (if (x5.size : Int) > 3000 then (some ((⟨#[]⟩ : ByteArray), 3)) else (some (x5, 0))) else ((purl_path.f k x311005).bind fun t326 => (if 1 + t326.size ≤ 9223372036854775807 then (if x5.size + ((⟨#[35]⟩ : ByteArray) ++ t326).size ≤ 9223372036854775807 then (if ((x5 ++ ((⟨#[35]⟩ : ByteArray) ++ t326)).size : Int) > 3000 then (some ((⟨#[]⟩ : ByteArray), 3)) else (some (x5 ++ ((⟨#[35]⟩ : ByteArray) ++ t326), 0))) else (none)) else (none))))
end
def purl_Print.f (k : Nat) (a0_0 : ByteArray) (a0_1 : ByteArray) (a0_2 : ByteArray) (a0_3 : ByteArray) (l0_4 : List (S64)) (a0_5 : ByteArray) : Option (ByteArray × Int) := (purl_Check.f k a0_0 a0_1 a0_2 a0_3 l0_4 a0_5).bind fun t311 => (if t311 = 0 then ((purl_canonical.f a0_0 a0_1 a0_2 a0_3 l0_4 a0_5).bind fun bt312 => ((purl_keyText.f k bt312.1 bt312.2.1 bt312.2.2.1 bt312.2.2.2.1 bt312.2.2.2.2.1 bt312.2.2.2.2.2).bind fun t320 => (if bt312.2.2.2.1.toList = ([] : List UInt8) then (purl_Print.j0 k t320 bt312.1 bt312.2.1 bt312.2.2.1 bt312.2.2.2.1 bt312.2.2.2.2.1 bt312.2.2.2.2.2) else ((purl_escaped.f bt312.2.2.2.1).bind fun t321 => (if 1 + t321.size ≤ 9223372036854775807 then (if t320.size + ((⟨#[64]⟩ : ByteArray) ++ t321).size ≤ 9223372036854775807 then (purl_Print.j0 k (t320 ++ ((⟨#[64]⟩ : ByteArray) ++ t321)) bt312.1 bt312.2.1 bt312.2.2.1 bt312.2.2.2.1 bt312.2.2.2.2.1 bt312.2.2.2.2.2) else (none)) else (none)))))) else (some ((⟨#[]⟩ : ByteArray), t311)))
theorem purl_Print.mono_l : ∀ k, (∀ y0 y1 y2 y3 y4 y5 y6, LeO (purl_Print.j0 k y0 y1 y2 y3 y4 y5 y6) (purl_Print.j0 (k + 1) y0 y1 y2 y3 y4 y5 y6)) ∧ (∀ y0 y1 y2 y3 y4 y5 y6 y7 y8 y9, LeO (purl_Print.l0 k y0 y1 y2 y3 y4 y5 y6 y7 y8 y9) (purl_Print.l0 (k + 1) y0 y1 y2 y3 y4 y5 y6 y7 y8 y9))
 | 0 => ⟨fun _ _ _ _ _ _ _ r h => by simp [purl_Print.j0] at h, fun _ _ _ _ _ _ _ _ _ _ r h => by simp [purl_Print.l0] at h⟩
 | k + 1 => by
  obtain ⟨ih0, ih1⟩ := purl_Print.mono_l k
  refine ⟨?_, ?_⟩
  ·intro y0 y1 y2 y3 y4 y5 y6
   unfold purl_Print.j0
   repeat' first
   | (with_reducible exact ya _)
   | (with_reducible exact yb _)
   | (with_reducible refine zZ ?_ ?_)
   | (with_reducible refine zY ?_ (fun _ => ?_))
   | exact ih0 _ _ _ _ _ _ _
   | exact ih1 _ _ _ _ _ _ _ _ _ _
   | exact purl_Check.mono _ _ _ _ _ _ _
   | exact purl_keyText.mono _ _ _ _ _ _ _
   | exact purl_path.mono _ _
   | exact yb _
   | refine zZ ?_ ?_
   | refine zY ?_ (fun _ => ?_)
  ·intro y0 y1 y2 y3 y4 y5 y6 y7 y8 y9
   unfold purl_Print.l0
   repeat' first
   | (with_reducible exact ya _)
   | (with_reducible exact yb _)
   | (with_reducible refine zZ ?_ ?_)
   | (with_reducible refine zY ?_ (fun _ => ?_))
   | exact ih0 _ _ _ _ _ _ _
   | exact ih1 _ _ _ _ _ _ _ _ _ _
   | exact purl_Check.mono _ _ _ _ _ _ _
   | exact purl_keyText.mono _ _ _ _ _ _ _
   | exact purl_path.mono _ _
   | exact yb _
   | refine zZ ?_ ?_
   | refine zY ?_ (fun _ => ?_)
theorem purl_Print.mono : ∀ a0 a1 a2 a3 a4 a5 k, LeO (purl_Print.f k a0 a1 a2 a3 a4 a5) (purl_Print.f (k + 1) a0 a1 a2 a3 a4 a5) := by
 intro a0 a1 a2 a3 a4 a5 k
 obtain ⟨ih0, ih1⟩ := purl_Print.mono_l k
 unfold purl_Print.f
 repeat' first
   | (with_reducible exact ya _)
   | (with_reducible exact yb _)
   | (with_reducible refine zZ ?_ ?_)
   | (with_reducible refine zY ?_ (fun _ => ?_))
   | exact ih0 _ _ _ _ _ _ _
   | exact ih1 _ _ _ _ _ _ _ _ _ _
   | exact purl_Check.mono _ _ _ _ _ _ _
   | exact purl_keyText.mono _ _ _ _ _ _ _
   | exact purl_path.mono _ _
   | exact yb _
   | refine zZ ?_ ?_
   | refine zY ?_ (fun _ => ?_)
def purl_Print.T14 : Bool × List (List Nat × List Nat) := (true, [([], []), ([], []), ([], []), ([2], [2]), ([1, 3], [1, 3]), ([4], [4]), ([], []), ([6], [6]), ([7], [7]), ([5, 8], [5, 8]), ([0, 9], [0, 9]), ([10, 8, 0, 1, 2, 3, 4, 5, 6, 7, 8, 9, 10], [0, 10])])
def purl_Print.B14 : List Nat := [0, 0, 0, 4, 14, 30, 0, 64, 192, 510, 1023, 2047]
theorem purl_Print.tab14 : rtab .any (opsOf Tryd.f14 14) = purl_Print.T14 := by kernel_rfl
theorem purl_Print.bits14 : waitsOk purl_Print.T14.2 purl_Print.B14 = true := by kernel_rfl
set_option maxHeartbeats 8000000 in
set_option maxRecDepth 100000 in
theorem purl_Print.calls (k : Nat) (a0_0 : ByteArray) (a0_1 : ByteArray) (a0_2 : ByteArray) (a0_3 : ByteArray) (A0_4 : Option Addr) (c0_4 : Nat) (l0_4 : List (S64)) (a0_5 : ByteArray) (r1 : ByteArray) (r2 : Int) (w : World) (hr0_4 : Kd.C k64 w A0_4 l0_4.length l0_4) (hc0_4 : l0_4.length ≤ c0_4) (h : purl_Print.f k a0_0 a0_1 a0_2 a0_3 l0_4 a0_5 = some (r1, r2)) :
  Calls Tryd.prog 14 #[.agg #[.string a0_0, .string a0_1, .string a0_2, .string a0_3, .slice A0_4 l0_4.length c0_4, .string a0_5]] w fun e w' => e = .returned (.tuple #[.string r1, .int .i64 r2]) ∧ Below w.heap.size w w' := by
 have hu24 := Tryd.underlying24
 have hu64 := Tryd.underlying64
 have HR0_4 := Aq.mk hr0_4
 have HC0_4 := Aq.mk hc0_4
 clear hr0_4 hc0_4
 have HB := Aq.mk (Below.refl w.heap.size w)
 have H : ((purl_Check.f k a0_0 a0_1 a0_2 a0_3 l0_4 a0_5).bind fun t311 => (if t311 = 0 then ((purl_canonical.f a0_0 a0_1 a0_2 a0_3 l0_4 a0_5).bind fun bt312 => ((purl_keyText.f k bt312.1 bt312.2.1 bt312.2.2.1 bt312.2.2.2.1 bt312.2.2.2.2.1 bt312.2.2.2.2.2).bind fun t320 => (if bt312.2.2.2.1.toList = ([] : List UInt8) then (purl_Print.j0 k t320 bt312.1 bt312.2.1 bt312.2.2.1 bt312.2.2.2.1 bt312.2.2.2.2.1 bt312.2.2.2.2.2) else ((purl_escaped.f bt312.2.2.2.1).bind fun t321 => (if 1 + t321.size ≤ 9223372036854775807 then (if t320.size + ((⟨#[64]⟩ : ByteArray) ++ t321).size ≤ 9223372036854775807 then (purl_Print.j0 k (t320 ++ ((⟨#[64]⟩ : ByteArray) ++ t321)) bt312.1 bt312.2.1 bt312.2.2.1 bt312.2.2.2.1 bt312.2.2.2.2.1 bt312.2.2.2.2.2) else (none)) else (none)))))) else (some ((⟨#[]⟩ : ByteArray), t311)))) = some (r1, r2) := h
 clear h
 replace H := zu.mp H
 obtain ⟨t311, A20, H⟩ := H
 replace H : (if t311 = 0 then ((purl_canonical.f a0_0 a0_1 a0_2 a0_3 l0_4 a0_5).bind fun bt312 => ((purl_keyText.f k bt312.1 bt312.2.1 bt312.2.2.1 bt312.2.2.2.1 bt312.2.2.2.2.1 bt312.2.2.2.2.2).bind fun t320 => (if bt312.2.2.2.1.toList = ([] : List UInt8) then (purl_Print.j0 k t320 bt312.1 bt312.2.1 bt312.2.2.1 bt312.2.2.2.1 bt312.2.2.2.2.1 bt312.2.2.2.2.2) else ((purl_escaped.f bt312.2.2.2.1).bind fun t321 => (if 1 + t321.size ≤ 9223372036854775807 then (if t320.size + ((⟨#[64]⟩ : ByteArray) ++ t321).size ≤ 9223372036854775807 then (purl_Print.j0 k (t320 ++ ((⟨#[64]⟩ : ByteArray) ++ t321)) bt312.1 bt312.2.1 bt312.2.2.1 bt312.2.2.2.1 bt312.2.2.2.2.1 bt312.2.2.2.2.2) else (none)) else (none)))))) else (some ((⟨#[]⟩ : ByteArray), t311))) = some (r1, r2) := H
 have A2 := Aq.mk A20
 clear A20
 by_cases c3 : t311 = 0
 ·rw [if_pos c3] at H
  have c3b0 : (t311 == 0) = true := yc.mpr c3
  have c3b1 : (t311 != 0) = false := yf.mpr c3
  clear c3
  replace H := zu.mp H
  obtain ⟨⟨t312, t313, t314, t315, t316, t319⟩, A40, H⟩ := H
  replace H : ((purl_keyText.f k t312 t313 t314 t315 t316 t319).bind fun t320 => (if t315.toList = ([] : List UInt8) then (purl_Print.j0 k t320 t312 t313 t314 t315 t316 t319) else ((purl_escaped.f t315).bind fun t321 => (if 1 + t321.size ≤ 9223372036854775807 then (if t320.size + ((⟨#[64]⟩ : ByteArray) ++ t321).size ≤ 9223372036854775807 then (purl_Print.j0 k (t320 ++ ((⟨#[64]⟩ : ByteArray) ++ t321)) t312 t313 t314 t315 t316 t319) else (none)) else (none))))) = some (r1, r2) := H
  have A4 := Aq.mk A40
  clear A40
  replace H := zu.mp H
  obtain ⟨t320, A50, H⟩ := H
  replace H : (if t315.toList = ([] : List UInt8) then (purl_Print.j0 k t320 t312 t313 t314 t315 t316 t319) else ((purl_escaped.f t315).bind fun t321 => (if 1 + t321.size ≤ 9223372036854775807 then (if t320.size + ((⟨#[64]⟩ : ByteArray) ++ t321).size ≤ 9223372036854775807 then (purl_Print.j0 k (t320 ++ ((⟨#[64]⟩ : ByteArray) ++ t321)) t312 t313 t314 t315 t316 t319) else (none)) else (none)))) = some (r1, r2) := H
  have A5 := Aq.mk A50
  clear A50
  have HC6 := Aq.mk H
  clear H
  go_enter Tryd.func14, Tryd.ntmps14
  go_upto_if 20 with (first | ((with_reducible refine gate_dst (N := 1) rfl ?_); refine box_event ?hg (N := 1) ?hd (cs := #[.string a0_0, .string a0_1, .string a0_2, .string a0_3, .slice A0_4 l0_4.length c0_4, .string a0_5]) (t := 24) ?hr ?_; (case hd => rfl); (case hg => rfl); (case hr => first | (go_simp; done) | (go_simp; rfl)); intro gb310 hg w7 hbox hb; have n0_ := Aq.mk (zv (by repeat (with_reducible first | exact HB.out | apply zd | apply zb | apply zc)) hb); have n1_ := Aq.mk (hbox); have n2_ := Aq.mk ((by rw [hg]; exact (zz (by repeat (with_reducible first | exact HB.out | apply zd | apply zb | apply zc))) : w.heap.size ≤ gb310)); have n3_ := Aq.mk ((by rw [hg]; exact (zz (by repeat (with_reducible first | exact HB.out | apply zd | apply zb | apply zc))) : w.heap.size ≤ gb310)); clear HB; have HB := n0_; have BK310 := n1_; have GW310 := n2_; have GE310 := n3_; clear n0_ n1_ n2_ n3_; clear hb hbox hg; have hcz8_0 : w7.cell? ⟨gb310, 0, none⟩ = some (.string a0_0) := (ze BK310.out 0).trans rfl; have hcz8_1 : w7.cell? ⟨gb310, 1, none⟩ = some (.string a0_1) := (ze BK310.out 1).trans rfl; have hcz8_2 : w7.cell? ⟨gb310, 2, none⟩ = some (.string a0_2) := (ze BK310.out 2).trans rfl; have hcz8_3 : w7.cell? ⟨gb310, 3, none⟩ = some (.string a0_3) := (ze BK310.out 3).trans rfl; have hcz8_4 : w7.cell? ⟨gb310, 4, none⟩ = some (.slice A0_4 l0_4.length c0_4) := (ze BK310.out 4).trans rfl; have hcz8_5 : w7.cell? ⟨gb310, 5, none⟩ = some (.string a0_5) := (ze BK310.out 5).trans rfl; have hfz8_0 := za BK310.out 0; have hfz8_1 := za BK310.out 1; have hfz8_2 := za BK310.out 2; have hfz8_3 := za BK310.out 3; have hfz8_4 := za BK310.out 4; have hfz8_5 := za BK310.out 5) | ((with_reducible refine gate_callee (f := 26) rfl ?_); refine goesL_ (some 10) rfl rfl Tryd.func26 (by kernel_rfl) rfl #[.agg #[.string a0_0, .string a0_1, .string a0_2, .string a0_3, .slice A0_4 l0_4.length c0_4, .string a0_5]] rfl (by (try simp only [zP, zQ, zR]); first | done | rfl | (simp only [zS, zT]; rfl)) ?_; (with_reducible refine (purl_Check.calls k a0_0 a0_1 a0_2 a0_3 _ _ l0_4 a0_5 t311 _ ?side1 ?side2 A2.out).mono ?_); (case side1 => repeat (first | exact (Kd.C_below HR0_4.out HB.out) | (with_reducible refine zF ?_ _) | (with_reducible refine zE ?_ _) | (with_reducible refine zG ?_))); (case side2 => exact HC0_4.out); rintro e w9 ⟨rfl, hb⟩; refine ⟨_, rfl, ?_⟩; have n0_ := Aq.mk (zw (g := gb310) (o := .cells #[.string a0_0, .string a0_1, .string a0_2, .string a0_3, .slice A0_4 l0_4.length c0_4, .string a0_5] 24 (0, 0)) (by (with_reducible repeat (first | refine zg ?_ _ | refine zi ?_ | refine zh ?_ _)); exact BK310.out) hb); have n1_ := Aq.mk (zv (by repeat (with_reducible first | exact HB.out | apply zd | apply zb | apply zc | refine zf ?_ GE310.out)) hb); clear BK310; clear HB; have BK310 := n0_; have HB := n1_; clear n0_ n1_; (try clear hb); (try clear hb2); (try clear hk); (try clear hi); have hcz10_0 : w9.cell? ⟨gb310, 0, none⟩ = some (.string a0_0) := (ze BK310.out 0).trans rfl; have hcz10_1 : w9.cell? ⟨gb310, 1, none⟩ = some (.string a0_1) := (ze BK310.out 1).trans rfl; have hcz10_2 : w9.cell? ⟨gb310, 2, none⟩ = some (.string a0_2) := (ze BK310.out 2).trans rfl; have hcz10_3 : w9.cell? ⟨gb310, 3, none⟩ = some (.string a0_3) := (ze BK310.out 3).trans rfl; have hcz10_4 : w9.cell? ⟨gb310, 4, none⟩ = some (.slice A0_4 l0_4.length c0_4) := (ze BK310.out 4).trans rfl; have hcz10_5 : w9.cell? ⟨gb310, 5, none⟩ = some (.string a0_5) := (ze BK310.out 5).trans rfl; have hfz10_0 := za BK310.out 0; have hfz10_1 := za BK310.out 1; have hfz10_2 := za BK310.out 2; have hfz10_3 := za BK310.out 3; have hfz10_4 := za BK310.out 4; have hfz10_5 := za BK310.out 5) | ((with_reducible refine gate_callee (f := 50) rfl ?_); refine goesL_ (some 15) rfl rfl Tryd.func50 (by kernel_rfl) rfl #[.agg #[.string a0_0, .string a0_1, .string a0_2, .string a0_3, .slice A0_4 l0_4.length c0_4, .string a0_5]] rfl (by (try simp only [zP, zQ, zR]); first | done | rfl | (simp only [zS, zT]; rfl)) ?_; (with_reducible refine (purl_canonical.calls a0_0 a0_1 a0_2 a0_3 _ _ l0_4 a0_5 t312 t313 t314 t315 t316 t319 _ ?side1 ?side2 A4.out).mono ?_); (case side1 => repeat (first | exact (Kd.C_below HR0_4.out HB.out) | (with_reducible refine zF ?_ _) | (with_reducible refine zE ?_ _) | (with_reducible refine zG ?_))); (case side2 => exact HC0_4.out); rintro e w11 ⟨v317, rfl, ho0, hb⟩; refine ⟨_, rfl, ?_⟩; have n0_ := Aq.mk (zX ho0 (zz (by repeat (with_reducible first | exact HB.out | apply zd | apply zb | apply zc | refine zf ?_ GE310.out)))); have n1_ := Aq.mk (zw (g := gb310) (o := .cells #[.string a0_0, .string a0_1, .string a0_2, .string a0_3, .slice A0_4 l0_4.length c0_4, .string a0_5] 24 (0, 0)) (by (with_reducible repeat (first | refine zg ?_ _ | refine zi ?_ | refine zh ?_ _)); exact BK310.out) hb); have n2_ := Aq.mk (zv (by repeat (with_reducible first | exact HB.out | apply zd | apply zb | apply zc | refine zf ?_ GE310.out)) hb); clear BK310; clear HB; have HO318 := n0_; have BK310 := n1_; have HB := n2_; clear n0_ n1_ n2_; (try clear hb); (try clear hb2); (try clear hk); (try clear hi); (try clear ho0); have hcz12_0 : w11.cell? ⟨gb310, 0, none⟩ = some (.string a0_0) := (ze BK310.out 0).trans rfl; have hcz12_1 : w11.cell? ⟨gb310, 1, none⟩ = some (.string a0_1) := (ze BK310.out 1).trans rfl; have hcz12_2 : w11.cell? ⟨gb310, 2, none⟩ = some (.string a0_2) := (ze BK310.out 2).trans rfl; have hcz12_3 : w11.cell? ⟨gb310, 3, none⟩ = some (.string a0_3) := (ze BK310.out 3).trans rfl; have hcz12_4 : w11.cell? ⟨gb310, 4, none⟩ = some (.slice A0_4 l0_4.length c0_4) := (ze BK310.out 4).trans rfl; have hcz12_5 : w11.cell? ⟨gb310, 5, none⟩ = some (.string a0_5) := (ze BK310.out 5).trans rfl; have hfz12_0 := za BK310.out 0; have hfz12_1 := za BK310.out 1; have hfz12_2 := za BK310.out 2; have hfz12_3 := za BK310.out 3; have hfz12_4 := za BK310.out 4; have hfz12_5 := za BK310.out 5; obtain ⟨Ao13, co13, eo13⟩ := yi HO318.out; subst eo13) | ((with_reducible refine gate_callee (f := 52) rfl ?_); refine goesL_ (some 17) rfl rfl Tryd.func52 (by kernel_rfl) rfl #[.agg #[.string t312, .string t313, .string t314, .string t315, .slice Ao13 t316.length co13, .string t319]] rfl (by (try simp only [zP, zQ, zR]); first | done | rfl | (simp only [zS, zT]; rfl)) ?_; (with_reducible refine (purl_keyText.calls k t312 t313 t314 t315 _ _ t316 t319 t320 _ ?side1 ?side2 A5.out).mono ?_); (case side1 => refine (Kd.R_reads' (e := 64) (base := w.heap.size) (ok := fun k_ => True) (n := t316.length) (c := co13) ?_).2.2; exact (by (with_reducible repeat (first | apply zC | apply zB | apply zD)); exact (Kd.R_mono (Kd.R_far (p := ⟨gb310, 5, none⟩) (Kd.R_far (p := ⟨gb310, 4, none⟩) (Kd.R_far (p := ⟨gb310, 3, none⟩) (Kd.R_far (p := ⟨gb310, 2, none⟩) (Kd.R_far (p := ⟨gb310, 1, none⟩) (Kd.R_far (p := ⟨gb310, 0, none⟩) (Kd.R_types HO318.out BK310.out (by decide)) (fun _ hk => hk.2) (.string t312)) (fun _ hk => hk.2) (.string t313)) (fun _ hk => hk.2) (.string t314)) (fun _ hk => hk.2) (.string t315)) (fun _ hk => hk.2) (.slice Ao13 t316.length co13)) (fun _ hk => hk.2) (.string t319)) (fun _ h_ => h_.1)))); (case side2 => exact (Kd.R_reads' HO318.out).2.1); rintro e w14 ⟨rfl, hb⟩; refine ⟨_, rfl, ?_⟩; have n0_ := Aq.mk (yj (by (with_reducible repeat (first | apply zC | apply zB | apply zD)); exact (Kd.R_mono (Kd.R_far (p := ⟨gb310, 5, none⟩) (Kd.R_far (p := ⟨gb310, 4, none⟩) (Kd.R_far (p := ⟨gb310, 3, none⟩) (Kd.R_far (p := ⟨gb310, 2, none⟩) (Kd.R_far (p := ⟨gb310, 1, none⟩) (Kd.R_far (p := ⟨gb310, 0, none⟩) (Kd.R_types HO318.out BK310.out (by decide)) (fun _ hk => hk.2) (.string t312)) (fun _ hk => hk.2) (.string t313)) (fun _ hk => hk.2) (.string t314)) (fun _ hk => hk.2) (.string t315)) (fun _ hk => hk.2) (.slice Ao13 t316.length co13)) (fun _ hk => hk.2) (.string t319)) (fun _ h_ => h_.1))) hb); have n1_ := Aq.mk (zw (g := gb310) (o := .cells #[.string t312, .string t313, .string t314, .string t315, .slice Ao13 t316.length co13, .string t319] 24 (0, 0)) (by (with_reducible repeat (first | refine zg ?_ _ | refine zi ?_ | refine zh ?_ _)); refine zy (cs := #[.string t312, .string t313, .string t314, .string t315, .slice Ao13 t316.length co13, .string a0_5]) ?_ 5 _ rfl; (with_reducible repeat (first | refine zg ?_ _ | refine zi ?_ | refine zh ?_ _)); refine zy (cs := #[.string t312, .string t313, .string t314, .string t315, .slice A0_4 l0_4.length c0_4, .string a0_5]) ?_ 4 _ rfl; (with_reducible repeat (first | refine zg ?_ _ | refine zi ?_ | refine zh ?_ _)); refine zy (cs := #[.string t312, .string t313, .string t314, .string a0_3, .slice A0_4 l0_4.length c0_4, .string a0_5]) ?_ 3 _ rfl; (with_reducible repeat (first | refine zg ?_ _ | refine zi ?_ | refine zh ?_ _)); refine zy (cs := #[.string t312, .string t313, .string a0_2, .string a0_3, .slice A0_4 l0_4.length c0_4, .string a0_5]) ?_ 2 _ rfl; (with_reducible repeat (first | refine zg ?_ _ | refine zi ?_ | refine zh ?_ _)); refine zy (cs := #[.string t312, .string a0_1, .string a0_2, .string a0_3, .slice A0_4 l0_4.length c0_4, .string a0_5]) ?_ 1 _ rfl; (with_reducible repeat (first | refine zg ?_ _ | refine zi ?_ | refine zh ?_ _)); refine zy (cs := #[.string a0_0, .string a0_1, .string a0_2, .string a0_3, .slice A0_4 l0_4.length c0_4, .string a0_5]) ?_ 0 _ rfl; (with_reducible repeat (first | refine zg ?_ _ | refine zi ?_ | refine zh ?_ _)); exact BK310.out) hb); have n2_ := Aq.mk (zv (by repeat (with_reducible first | exact HB.out | apply zd | apply zb | apply zc | refine zf ?_ GE310.out)) hb); clear HO318; clear BK310; clear HB; have HO318 := n0_; have BK310 := n1_; have HB := n2_; clear n0_ n1_ n2_; (try clear hb); (try clear hb2); (try clear hk); (try clear hi); have hcz15_0 : w14.cell? ⟨gb310, 0, none⟩ = some (.string t312) := (ze BK310.out 0).trans rfl; have hcz15_1 : w14.cell? ⟨gb310, 1, none⟩ = some (.string t313) := (ze BK310.out 1).trans rfl; have hcz15_2 : w14.cell? ⟨gb310, 2, none⟩ = some (.string t314) := (ze BK310.out 2).trans rfl; have hcz15_3 : w14.cell? ⟨gb310, 3, none⟩ = some (.string t315) := (ze BK310.out 3).trans rfl; have hcz15_4 : w14.cell? ⟨gb310, 4, none⟩ = some (.slice Ao13 t316.length co13) := (ze BK310.out 4).trans rfl; have hcz15_5 : w14.cell? ⟨gb310, 5, none⟩ = some (.string t319) := (ze BK310.out 5).trans rfl; have hfz15_0 := za BK310.out 0; have hfz15_1 := za BK310.out 1; have hfz15_2 := za BK310.out 2; have hfz15_3 := za BK310.out 3; have hfz15_4 := za BK310.out 4; have hfz15_5 := za BK310.out 5))
  (try simp only [Act.put, zJ, zK, zL])
  go_cut [5] (fun v5 wc => ∃ (kq : Nat) (x5_5 : ByteArray), v5 = .string x5_5 ∧ Aq (purl_Print.j0 kq x5_5 t312 t313 t314 t315 t316 t319 = some (r1, r2)) ∧ Aq (kq ≤ k) ∧ Aq (Kd.R k64 64 wc w.heap.size (fun _ => True) (.slice Ao13 t316.length co13) t316) ∧ Aq (wc.heap[gb310]? = some (.cells #[.string t312, .string t313, .string t314, .string t315, (.slice Ao13 t316.length co13), .string t319] 24 (0, 0))) ∧ Aq (Below w.heap.size w wc))
  case first =>
   have H := HC6.out
   clear HC6
   by_cases c16 : t315.toList = ([] : List UInt8)
   ·rw [if_pos c16] at H
    have c16b0 : (t315.toList == ([] : List UInt8)) = true := yc.mpr c16
    have c16b1 : (t315.toList != ([] : List UInt8)) = false := yf.mpr c16
    have c16bE : (!(t315).toList.isEmpty) = false := by rw [List.isEmpty_iff.2 c16]; rfl
    clear c16
    (first | rw [c16b0] | rw [c16bE] | (simp only [i64_w, i32_w]; rw [c16b0]) | skip)
    have H' := Aq.mk H
    clear H
    go_wp2
    go_meet
    case rel => exact ⟨_, (t320), (by first | rfl | (simp; done) | (simp [*]; done)), H', ⟨by first | omega | exact Nat.le_refl _⟩, ⟨by (with_reducible repeat (first | apply zC | apply zB | apply zD)); exact HO318.out⟩, ⟨by (with_reducible repeat (first | refine zg ?_ _ | refine zi ?_ | refine zh ?_ _)); exact BK310.out⟩, ⟨by repeat (with_reducible first | exact HB.out | apply zd | apply zb | apply zc | refine zf ?_ GE310.out)⟩⟩
   ·rw [if_neg c16] at H
    have c16b0 : (t315.toList == ([] : List UInt8)) = false := ye.mpr c16
    have c16b1 : (t315.toList != ([] : List UInt8)) = true := yd.mpr c16
    have c16bE : (!(t315).toList.isEmpty) = true := by
     cases h_ : (t315).toList with
     | nil => exact absurd h_ c16
     | cons _ _ => rfl
    (first | rw [c16b0] | rw [c16bE] | (simp only [i64_w, i32_w]; rw [c16b0]) | skip)
    replace H := zu.mp H
    obtain ⟨t321, A170, H⟩ := H
    replace H : (if 1 + t321.size ≤ 9223372036854775807 then (if t320.size + ((⟨#[64]⟩ : ByteArray) ++ t321).size ≤ 9223372036854775807 then (purl_Print.j0 k (t320 ++ ((⟨#[64]⟩ : ByteArray) ++ t321)) t312 t313 t314 t315 t316 t319) else (none)) else (none)) = some (r1, r2) := H
    have A17 := Aq.mk A170
    clear A170
    by_cases c18 : 1 + t321.size ≤ 9223372036854775807
    ·rw [if_pos c18] at H
     have c18b0 := eq_true c18
     have c18b1 : decide (1 + t321.size ≤ 9223372036854775807) = true := zk c18
     try have c18b2 : (9223372036854775807 < 1 + t321.size) = False := eq_false (Nat.not_lt.2 c18)
     by_cases c19 : t320.size + ((⟨#[64]⟩ : ByteArray) ++ t321).size ≤ 9223372036854775807
     ·rw [if_pos c19] at H
      have c19b0 := eq_true c19
      have c19b1 : decide (t320.size + ((⟨#[64]⟩ : ByteArray) ++ t321).size ≤ 9223372036854775807) = true := zk c19
      try have c19b2 : (9223372036854775807 < t320.size + ((⟨#[64]⟩ : ByteArray) ++ t321).size) = False := eq_false (Nat.not_lt.2 c19)
      try have c19b3 : (9223372036854775807 < t320.size + (1 + t321.size)) = False := by have h_ := c19; simp only [ByteArray.size_append] at h_; exact eq_false (Nat.not_lt.2 h_)
      try have c19b4 : (t320.size + (1 + t321.size) ≤ 9223372036854775807) = True := by have h_ := c19; simp only [ByteArray.size_append] at h_; exact eq_true h_
      have H' := Aq.mk H
      clear H
      have hcz20_0 : w14.cell? ⟨gb310, 0, none⟩ = some (.string t312) := (ze BK310.out 0).trans rfl
      have hcz20_1 : w14.cell? ⟨gb310, 1, none⟩ = some (.string t313) := (ze BK310.out 1).trans rfl
      have hcz20_2 : w14.cell? ⟨gb310, 2, none⟩ = some (.string t314) := (ze BK310.out 2).trans rfl
      have hcz20_3 : w14.cell? ⟨gb310, 3, none⟩ = some (.string t315) := (ze BK310.out 3).trans rfl
      have hcz20_4 : w14.cell? ⟨gb310, 4, none⟩ = some (.slice Ao13 t316.length co13) := (ze BK310.out 4).trans rfl
      have hcz20_5 : w14.cell? ⟨gb310, 5, none⟩ = some (.string t319) := (ze BK310.out 5).trans rfl
      have hfz20_0 := za BK310.out 0
      have hfz20_1 := za BK310.out 1
      have hfz20_2 := za BK310.out 2
      have hfz20_3 := za BK310.out 3
      have hfz20_4 := za BK310.out 4
      have hfz20_5 := za BK310.out 5
      go_wp2_with (first | ((with_reducible refine gate_callee (f := 53) rfl ?_); refine goesL_ (some 24) rfl rfl Tryd.func53 (by kernel_rfl) rfl #[.string t315] rfl (by (try simp only [zP, zQ, zR]); first | done | rfl | (simp only [zS, zT]; rfl)) ?_; (with_reducible refine (purl_escaped.calls t315 t321 _ A17.out).mono ?_); rintro e w21 ⟨rfl, hb⟩; refine ⟨_, rfl, ?_⟩; have n0_ := Aq.mk (yj (by (with_reducible repeat (first | apply zC | apply zB | apply zD)); exact HO318.out) hb); have n1_ := Aq.mk (zw (g := gb310) (o := .cells #[.string t312, .string t313, .string t314, .string t315, .slice Ao13 t316.length co13, .string t319] 24 (0, 0)) (by (with_reducible repeat (first | refine zg ?_ _ | refine zi ?_ | refine zh ?_ _)); exact BK310.out) hb); have n2_ := Aq.mk (zv (by repeat (with_reducible first | exact HB.out | apply zd | apply zb | apply zc | refine zf ?_ GE310.out)) hb); clear HO318; clear BK310; clear HB; have HO318 := n0_; have BK310 := n1_; have HB := n2_; clear n0_ n1_ n2_; (try clear hb); (try clear hb2); (try clear hk); (try clear hi)))
      go_meet
      case rel => exact ⟨_, (t320 ++ ((⟨#[64]⟩ : ByteArray) ++ t321)), (by first | rfl | (simp; done) | (simp [*]; done)), H', ⟨by first | omega | exact Nat.le_refl _⟩, ⟨by (with_reducible repeat (first | apply zC | apply zB | apply zD)); exact HO318.out⟩, ⟨by (with_reducible repeat (first | refine zg ?_ _ | refine zi ?_ | refine zh ?_ _)); exact BK310.out⟩, ⟨by repeat (with_reducible first | exact HB.out | apply zd | apply zb | apply zc | refine zf ?_ GE310.out)⟩⟩
     ·rw [if_neg c19] at H
      exact absurd H (by simp)
    ·rw [if_neg c18] at H
     exact absurd H (by simp)
  case rest =>
   clear HC6
   try clear c1
   try clear c2
   try clear p2
   try clear c3
   try clear c3b0
   try clear c3b1
   try clear c5
   try clear c14
   try clear c16
   try clear c16b0
   try clear c16b1
   try clear c18
   try clear c18b0
   try clear c18b1
   try clear c18b2
   try clear c19
   try clear c19b0
   try clear c19b1
   try clear c19b2
   try clear hcz10_0
   try clear hcz10_1
   try clear hcz10_2
   try clear hcz10_3
   try clear hcz10_4
   try clear hcz10_5
   try clear hcz12_0
   try clear hcz12_1
   try clear hcz12_2
   try clear hcz12_3
   try clear hcz12_4
   try clear hcz12_5
   try clear hcz15_0
   try clear hcz15_1
   try clear hcz15_2
   try clear hcz15_3
   try clear hcz15_4
   try clear hcz15_5
   try clear hcz20_0
   try clear hcz20_1
   try clear hcz20_2
   try clear hcz20_3
   try clear hcz20_4
   try clear hcz20_5
   try clear hcz8_0
   try clear hcz8_1
   try clear hcz8_2
   try clear hcz8_3
   try clear hcz8_4
   try clear hcz8_5
   try clear hfz10_0
   try clear hfz10_1
   try clear hfz10_2
   try clear hfz10_3
   try clear hfz10_4
   try clear hfz10_5
   try clear hfz12_0
   try clear hfz12_1
   try clear hfz12_2
   try clear hfz12_3
   try clear hfz12_4
   try clear hfz12_5
   try clear hfz15_0
   try clear hfz15_1
   try clear hfz15_2
   try clear hfz15_3
   try clear hfz15_4
   try clear hfz15_5
   try clear hfz20_0
   try clear hfz20_1
   try clear hfz20_2
   try clear hfz20_3
   try clear hfz20_4
   try clear hfz20_5
   try clear hfz8_0
   try clear hfz8_1
   try clear hfz8_2
   try clear hfz8_3
   try clear hfz8_4
   try clear hfz8_5
   obtain ⟨kq, x5_5, rfl, HA, HJ5, HO_311004, BK310, HB⟩ := hcut
   cases kq with
   | zero => exact absurd HA.out (by simp [purl_Print.j0])
   | succ kj5 =>
    have H := HA.out
    clear HA
    simp only [purl_Print.j0] at H
    have H' := Aq.mk H
    clear H
    have hcz22_0 : wc.cell? ⟨gb310, 0, none⟩ = some (.string t312) := (ze BK310.out 0).trans rfl
    have hcz22_1 : wc.cell? ⟨gb310, 1, none⟩ = some (.string t313) := (ze BK310.out 1).trans rfl
    have hcz22_2 : wc.cell? ⟨gb310, 2, none⟩ = some (.string t314) := (ze BK310.out 2).trans rfl
    have hcz22_3 : wc.cell? ⟨gb310, 3, none⟩ = some (.string t315) := (ze BK310.out 3).trans rfl
    have hcz22_4 : wc.cell? ⟨gb310, 4, none⟩ = some (.slice Ao13 t316.length co13) := (ze BK310.out 4).trans rfl
    have hcz22_5 : wc.cell? ⟨gb310, 5, none⟩ = some (.string t319) := (ze BK310.out 5).trans rfl
    have hfz22_0 := za BK310.out 0
    have hfz22_1 := za BK310.out 1
    have hfz22_2 := za BK310.out 2
    have hfz22_3 := za BK310.out 3
    have hfz22_4 := za BK310.out 4
    have hfz22_5 := za BK310.out 5
    go_wp2
    go_loopg [5, 30] kj5 (fun kq v5 v30 w' => ∃ (x5_2 : ByteArray) (x30_2 : Int), v5 = .string x5_2 ∧ v30 = .int .i64 x30_2 ∧ Aq (purl_Print.l0 kq x5_2 t316 (t316.length : Int) x30_2 t312 t313 t314 t315 t316 t319 = some (r1, r2)) ∧ Aq (kq ≤ kj5) ∧ Aq (Kd.R k64 64 w' w.heap.size (fun _ => True) (.slice Ao13 t316.length co13) t316) ∧ Aq (Kd.R k64 64 w' w.heap.size (fun _ => True) (.slice Ao13 t316.length co13) t316) ∧ Aq (w'.heap[gb310]? = some (.cells #[.string t312, .string t313, .string t314, .string t315, (.slice Ao13 t316.length co13), .string t319] 24 (0, 0))) ∧ Aq (Below w.heap.size w w'))
    case atStart => exact ⟨(x5_5), (0), (by first | rfl | (simp; done) | (simp [*]; done)), (by first | rfl | (simp; done) | (simp [*]; done)), H', ⟨Nat.le_refl _⟩, ⟨by (with_reducible repeat (first | apply zC | apply zB | apply zD)); exact HO_311004.out⟩, ⟨by (with_reducible repeat (first | apply zC | apply zB | apply zD)); exact HO_311004.out⟩, ⟨by (with_reducible repeat (first | refine zg ?_ _ | refine zi ?_ | refine zh ?_ _)); exact BK310.out⟩, ⟨by repeat (with_reducible first | exact HB.out | apply zd | apply zb | apply zc | refine zf ?_ GE310.out)⟩⟩
    case round =>
     clear H'
     try clear c1
     try clear c2
     try clear p2
     try clear c3
     try clear c3b0
     try clear c3b1
     try clear c5
     try clear c14
     try clear c16
     try clear c16b0
     try clear c16b1
     try clear c18
     try clear c18b0
     try clear c18b1
     try clear c18b2
     try clear c19
     try clear c19b0
     try clear c19b1
     try clear c19b2
     try clear hcz10_0
     try clear hcz10_1
     try clear hcz10_2
     try clear hcz10_3
     try clear hcz10_4
     try clear hcz10_5
     try clear hcz12_0
     try clear hcz12_1
     try clear hcz12_2
     try clear hcz12_3
     try clear hcz12_4
     try clear hcz12_5
     try clear hcz15_0
     try clear hcz15_1
     try clear hcz15_2
     try clear hcz15_3
     try clear hcz15_4
     try clear hcz15_5
     try clear hcz20_0
     try clear hcz20_1
     try clear hcz20_2
     try clear hcz20_3
     try clear hcz20_4
     try clear hcz20_5
     try clear hcz22_0
     try clear hcz22_1
     try clear hcz22_2
     try clear hcz22_3
     try clear hcz22_4
     try clear hcz22_5
     try clear hcz8_0
     try clear hcz8_1
     try clear hcz8_2
     try clear hcz8_3
     try clear hcz8_4
     try clear hcz8_5
     try clear hfz10_0
     try clear hfz10_1
     try clear hfz10_2
     try clear hfz10_3
     try clear hfz10_4
     try clear hfz10_5
     try clear hfz12_0
     try clear hfz12_1
     try clear hfz12_2
     try clear hfz12_3
     try clear hfz12_4
     try clear hfz12_5
     try clear hfz15_0
     try clear hfz15_1
     try clear hfz15_2
     try clear hfz15_3
     try clear hfz15_4
     try clear hfz15_5
     try clear hfz20_0
     try clear hfz20_1
     try clear hfz20_2
     try clear hfz20_3
     try clear hfz20_4
     try clear hfz20_5
     try clear hfz22_0
     try clear hfz22_1
     try clear hfz22_2
     try clear hfz22_3
     try clear hfz22_4
     try clear hfz22_5
     try clear hfz8_0
     try clear hfz8_1
     try clear hfz8_2
     try clear hfz8_3
     try clear hfz8_4
     try clear hfz8_5
     try clear p2
     obtain ⟨x5_2, x30_2, rfl, rfl, HA, HK2, HO_28, HO_311004, BK310, HB⟩ := hrel
     cases gk with
     | zero => exact absurd HA.out (by simp [purl_Print.l0])
     | succ k2 =>
      have H := HA.out
      clear HA
      simp only [purl_Print.l0] at H
      by_cases c23 : x30_2 < (t316.length : Int)
      ·rw [if_pos c23] at H
       have c23b0 : decide (x30_2 < (t316.length : Int)) = true := zk c23
       clear c23
       by_cases c24 : 0 ≤ x30_2
       ·rw [if_pos c24] at H
        have c24b0 : decide (0 ≤ x30_2) = true := zk c24
        clear c24
        by_cases c25 : x30_2 < (t316.length : Int)
        ·rw [if_pos c25] at H
         have c25b0 : decide (x30_2 < (t316.length : Int)) = true := zk c25
         clear c25
         by_cases c26 : x30_2 = 0
         ·rw [if_pos c26] at H
          have c26b0 : (x30_2 == 0) = true := yc.mpr c26
          have c26b1 : (x30_2 != 0) = false := yf.mpr c26
          clear c26
          by_cases c27 : 1 + ((rd_T64 t316 x30_2).f0).size ≤ 9223372036854775807
          ·rw [if_pos c27] at H
           have c27b0 := eq_true c27
           have c27b1 : decide (1 + ((rd_T64 t316 x30_2).f0).size ≤ 9223372036854775807) = true := zk c27
           try have c27b2 : (9223372036854775807 < 1 + ((rd_T64 t316 x30_2).f0).size) = False := eq_false (Nat.not_lt.2 c27)
           by_cases c28 : ((⟨#[63]⟩ : ByteArray) ++ ((rd_T64 t316 x30_2).f0)).size + 1 ≤ 9223372036854775807
           ·rw [if_pos c28] at H
            have c28b0 := eq_true c28
            have c28b1 : decide (((⟨#[63]⟩ : ByteArray) ++ ((rd_T64 t316 x30_2).f0)).size + 1 ≤ 9223372036854775807) = true := zk c28
            try have c28b2 : (9223372036854775807 < ((⟨#[63]⟩ : ByteArray) ++ ((rd_T64 t316 x30_2).f0)).size + 1) = False := eq_false (Nat.not_lt.2 c28)
            try have c28b3 : (9223372036854775807 < 1 + ((rd_T64 t316 x30_2).f0).size + 1) = False := by have h_ := c28; simp only [ByteArray.size_append] at h_; exact eq_false (Nat.not_lt.2 h_)
            try have c28b4 : (1 + ((rd_T64 t316 x30_2).f0).size + 1 ≤ 9223372036854775807) = True := by have h_ := c28; simp only [ByteArray.size_append] at h_; exact eq_true h_
            replace H := zu.mp H
            obtain ⟨t324, A290, H⟩ := H
            replace H : (if (((⟨#[63]⟩ : ByteArray) ++ ((rd_T64 t316 x30_2).f0)) ++ (⟨#[61]⟩ : ByteArray)).size + t324.size ≤ 9223372036854775807 then (if x5_2.size + ((((⟨#[63]⟩ : ByteArray) ++ ((rd_T64 t316 x30_2).f0)) ++ (⟨#[61]⟩ : ByteArray)) ++ t324).size ≤ 9223372036854775807 then (purl_Print.l0 k2 (x5_2 ++ ((((⟨#[63]⟩ : ByteArray) ++ ((rd_T64 t316 x30_2).f0)) ++ (⟨#[61]⟩ : ByteArray)) ++ t324)) t316 (t316.length : Int) (wrap64 (x30_2 + 1)) t312 t313 t314 t315 t316 t319) else (none)) else (none)) = some (r1, r2) := H
            have A29 := Aq.mk A290
            clear A290
            by_cases c30 : (((⟨#[63]⟩ : ByteArray) ++ ((rd_T64 t316 x30_2).f0)) ++ (⟨#[61]⟩ : ByteArray)).size + t324.size ≤ 9223372036854775807
            ·rw [if_pos c30] at H
             have c30b0 := eq_true c30
             have c30b1 : decide ((((⟨#[63]⟩ : ByteArray) ++ ((rd_T64 t316 x30_2).f0)) ++ (⟨#[61]⟩ : ByteArray)).size + t324.size ≤ 9223372036854775807) = true := zk c30
             try have c30b2 : (9223372036854775807 < (((⟨#[63]⟩ : ByteArray) ++ ((rd_T64 t316 x30_2).f0)) ++ (⟨#[61]⟩ : ByteArray)).size + t324.size) = False := eq_false (Nat.not_lt.2 c30)
             try have c30b3 : (9223372036854775807 < 1 + ((rd_T64 t316 x30_2).f0).size + 1 + t324.size) = False := by have h_ := c30; simp only [ByteArray.size_append] at h_; exact eq_false (Nat.not_lt.2 h_)
             try have c30b4 : (1 + ((rd_T64 t316 x30_2).f0).size + 1 + t324.size ≤ 9223372036854775807) = True := by have h_ := c30; simp only [ByteArray.size_append] at h_; exact eq_true h_
             by_cases c31 : x5_2.size + ((((⟨#[63]⟩ : ByteArray) ++ ((rd_T64 t316 x30_2).f0)) ++ (⟨#[61]⟩ : ByteArray)) ++ t324).size ≤ 9223372036854775807
             ·rw [if_pos c31] at H
              have c31b0 := eq_true c31
              have c31b1 : decide (x5_2.size + ((((⟨#[63]⟩ : ByteArray) ++ ((rd_T64 t316 x30_2).f0)) ++ (⟨#[61]⟩ : ByteArray)) ++ t324).size ≤ 9223372036854775807) = true := zk c31
              try have c31b2 : (9223372036854775807 < x5_2.size + ((((⟨#[63]⟩ : ByteArray) ++ ((rd_T64 t316 x30_2).f0)) ++ (⟨#[61]⟩ : ByteArray)) ++ t324).size) = False := eq_false (Nat.not_lt.2 c31)
              try have c31b3 : (9223372036854775807 < x5_2.size + (1 + ((rd_T64 t316 x30_2).f0).size + 1 + t324.size)) = False := by have h_ := c31; simp only [ByteArray.size_append] at h_; exact eq_false (Nat.not_lt.2 h_)
              try have c31b4 : (x5_2.size + (1 + ((rd_T64 t316 x30_2).f0).size + 1 + t324.size) ≤ 9223372036854775807) = True := by have h_ := c31; simp only [ByteArray.size_append] at h_; exact eq_true h_
              have H' := Aq.mk H
              clear H
              have p322 : 0 ≤ (x30_2 : Int) := zj (by assumption)
              have q322 : x30_2 < (t316.length : Int) := zj (by assumption)
              obtain ⟨ad322, e322, hx322_0, hx322_1⟩ := at_T64 (Kd.R_reads' HO_28.out).2.2 x30_2 p322 q322
              cases e322
              replace p322 := eq_true p322
              replace q322 := eq_true q322
              try go_wp2_with (first | ((with_reducible refine gate_dst (N := 7) rfl ?_); refine box_event ?hg (N := 7) ?hd (cs := #[.string (⟨#[]⟩ : ByteArray), .string (⟨#[]⟩ : ByteArray)]) (t := 64) ?hr ?_; (case hd => rfl); (case hg => rfl); (case hr => first | (go_simp; done) | (go_simp; rfl)); intro gb323 hg w32 hbox hb; have n0_ := Aq.mk (yj (Kd.R_elderB (by (with_reducible repeat (first | apply zC | apply zB | apply zD)); exact HO_28.out) gb323 (Nat.le_of_eq hg.symm)) hb); have n1_ := Aq.mk (yj (Kd.R_elderB (by (with_reducible repeat (first | apply zC | apply zB | apply zD)); exact HO_311004.out) gb323 (Nat.le_of_eq hg.symm)) hb); have n2_ := Aq.mk (zw (g := gb310) (o := .cells #[.string t312, .string t313, .string t314, .string t315, .slice (some ad322) t316.length co13, .string t319] 24 (0, 0)) (by (with_reducible repeat (first | refine zg ?_ _ | refine zi ?_ | refine zh ?_ _)); exact BK310.out) hb); have n3_ := Aq.mk (zv (by repeat (with_reducible first | exact HB.out | apply zd | apply zb | apply zc | refine zf ?_ GE310.out)) hb); have n4_ := Aq.mk (hbox); have n5_ := Aq.mk ((by rw [hg]; exact (zz (by repeat (with_reducible first | exact HB.out | apply zd | apply zb | apply zc | refine zf ?_ GE310.out))) : w.heap.size ≤ gb323)); have n6_ := Aq.mk ((by rw [hg]; exact (zz (by repeat (with_reducible first | exact HB.out | apply zd | apply zb | apply zc | refine zf ?_ GE310.out))) : w.heap.size ≤ gb323)); have n7_ := Aq.mk ((by rw [hg]; exact Nat.ne_of_lt (zA (g := gb310) (o := .cells #[.string t312, .string t313, .string t314, .string t315, .slice (some ad322) t316.length co13, .string t319] 24 (0, 0)) (by (with_reducible repeat (first | refine zg ?_ _ | refine zi ?_ | refine zh ?_ _)); exact BK310.out)) : gb310 ≠ gb323)); have n8_ := Aq.mk ((by rw [hg]; exact Nat.ne_of_gt (zA (g := gb310) (o := .cells #[.string t312, .string t313, .string t314, .string t315, .slice (some ad322) t316.length co13, .string t319] 24 (0, 0)) (by (with_reducible repeat (first | refine zg ?_ _ | refine zi ?_ | refine zh ?_ _)); exact BK310.out)) : gb323 ≠ gb310)); clear HO_28; clear HO_311004; clear BK310; clear HB; have HO_28 := n0_; have HO_311004 := n1_; have BK310 := n2_; have HB := n3_; have BK323 := n4_; have GW323 := n5_; have GE323 := n6_; have NB310_323 := n7_; have NB323_310 := n8_; clear n0_ n1_ n2_ n3_ n4_ n5_ n6_ n7_ n8_; clear hb hbox hg; have hnb33 := NB323_310.out; have hnc33 := NB310_323.out; have hcz34_0 : w32.cell? ⟨gb323, 0, none⟩ = some (.string (⟨#[]⟩ : ByteArray)) := (ze BK323.out 0).trans rfl; have hcz34_1 : w32.cell? ⟨gb323, 1, none⟩ = some (.string (⟨#[]⟩ : ByteArray)) := (ze BK323.out 1).trans rfl; have hfz34_0 := za BK323.out 0; have hfz34_1 := za BK323.out 1))
              have n0_ : Aq (Kd.R k64 64 ((w32.setCell ⟨gb323, 0, none⟩ (.string ((rd_T64 t316 x30_2).f0))).setCell ⟨gb323, 1, none⟩ (.string ((rd_T64 t316 x30_2).f1))) w.heap.size (fun k_ => k_ ≠ gb323) (.slice (some ad322) t316.length co13) t316) := ⟨by (with_reducible repeat (first | apply zC | apply zB | apply zD)); exact Kd.R_mono (Kd.R_far (p := ⟨gb323, 1, none⟩) (Kd.R_far (p := ⟨gb323, 0, none⟩) (Kd.R_mono HO_28.out (fun k_ hk => (⟨hk, hk.2⟩ : _ ∧ k_ ≠ gb323))) (fun _ hk => hk.2) (.string ((rd_T64 t316 x30_2).f0))) (fun _ hk => hk.2) (.string ((rd_T64 t316 x30_2).f1))) (fun _ hk => hk.1.2)⟩
              have n1_ : Aq (Kd.R k64 64 ((w32.setCell ⟨gb323, 0, none⟩ (.string ((rd_T64 t316 x30_2).f0))).setCell ⟨gb323, 1, none⟩ (.string ((rd_T64 t316 x30_2).f1))) w.heap.size (fun k_ => k_ ≠ gb323) (.slice (some ad322) t316.length co13) t316) := ⟨by (with_reducible repeat (first | apply zC | apply zB | apply zD)); exact Kd.R_mono (Kd.R_far (p := ⟨gb323, 1, none⟩) (Kd.R_far (p := ⟨gb323, 0, none⟩) (Kd.R_mono HO_311004.out (fun k_ hk => (⟨hk, hk.2⟩ : _ ∧ k_ ≠ gb323))) (fun _ hk => hk.2) (.string ((rd_T64 t316 x30_2).f0))) (fun _ hk => hk.2) (.string ((rd_T64 t316 x30_2).f1))) (fun _ hk => hk.1.2)⟩
              have n2_ : Aq (((w32.setCell ⟨gb323, 0, none⟩ (.string ((rd_T64 t316 x30_2).f0))).setCell ⟨gb323, 1, none⟩ (.string ((rd_T64 t316 x30_2).f1))).heap[gb310]? = some (.cells #[.string t312, .string t313, .string t314, .string t315, .slice (some ad322) t316.length co13, .string t319] 24 (0, 0))) := ⟨by (with_reducible repeat (first | refine zg ?_ _ | refine zi ?_ | refine zh ?_ _)); refine zx ?_ NB310_323.out _; (with_reducible repeat (first | refine zg ?_ _ | refine zi ?_ | refine zh ?_ _)); refine zx ?_ NB310_323.out _; (with_reducible repeat (first | refine zg ?_ _ | refine zi ?_ | refine zh ?_ _)); exact BK310.out⟩
              have n3_ : Aq (((w32.setCell ⟨gb323, 0, none⟩ (.string ((rd_T64 t316 x30_2).f0))).setCell ⟨gb323, 1, none⟩ (.string ((rd_T64 t316 x30_2).f1))).heap[gb323]? = some (.cells #[.string ((rd_T64 t316 x30_2).f0), .string ((rd_T64 t316 x30_2).f1)] 64 (0, 0))) := ⟨by (with_reducible repeat (first | refine zg ?_ _ | refine zi ?_ | refine zh ?_ _)); refine zy (cs := #[.string ((rd_T64 t316 x30_2).f0), .string (⟨#[]⟩ : ByteArray)]) ?_ 1 _ rfl; (with_reducible repeat (first | refine zg ?_ _ | refine zi ?_ | refine zh ?_ _)); refine zy (cs := #[.string (⟨#[]⟩ : ByteArray), .string (⟨#[]⟩ : ByteArray)]) ?_ 0 _ rfl; (with_reducible repeat (first | refine zg ?_ _ | refine zi ?_ | refine zh ?_ _)); exact BK323.out⟩
              have n4_ : Aq (Below w.heap.size w ((w32.setCell ⟨gb323, 0, none⟩ (.string ((rd_T64 t316 x30_2).f0))).setCell ⟨gb323, 1, none⟩ (.string ((rd_T64 t316 x30_2).f1)))) := ⟨by repeat (with_reducible first | exact HB.out | apply zd | apply zb | apply zc | refine zf ?_ GE310.out | refine zf ?_ GE323.out)⟩
              (try clear HO_28)
              (try clear HO_311004)
              (try clear BK310)
              (try clear BK323)
              (try clear HB)
              generalize ((w32.setCell ⟨gb323, 0, none⟩ (.string ((rd_T64 t316 x30_2).f0))).setCell ⟨gb323, 1, none⟩ (.string ((rd_T64 t316 x30_2).f1))) = w35 at n0_ n1_ n2_ n3_ n4_ ⊢
              have HO_28 := n0_
              have HO_311004 := n1_
              have BK310 := n2_
              have BK323 := n3_
              have HB := n4_
              clear n0_ n1_ n2_ n3_ n4_
              have n0_ := Aq.mk (zD HO_28.out)
              have n1_ := Aq.mk (zD HO_311004.out)
              have n2_ := Aq.mk (zi BK310.out)
              have n3_ := Aq.mk (zi BK323.out)
              have n4_ := Aq.mk (zc HB.out)
              clear HO_28
              clear HO_311004
              clear BK310
              clear BK323
              clear HB
              have HO_28 := n0_
              have HO_311004 := n1_
              have BK310 := n2_
              have BK323 := n3_
              have HB := n4_
              clear n0_ n1_ n2_ n3_ n4_
              refine start_ (n := 12) (S := fun w' => w'.cell? ⟨gb323, 0, none⟩ = some (.string ((rd_T64 t316 x30_2).f0)) ∧ w'.cell? ⟨gb323, 1, none⟩ = some (.string ((rd_T64 t316 x30_2).f1))) (ds := []) #[false, false, false, false, false, false, false, false, false, false, false, false] (by kernel_rfl) rfl rfl ⟨(ze BK323.out 0).trans rfl, (ze BK323.out 1).trans rfl⟩ (fun hHeld => ?_); refine with_tabW purl_Print.tab14 purl_Print.bits14 (fun HT_ HW_ => ?_)
              generalize w35.drew = w36 at HO_28 HO_311004 BK310 BK323 HB hHeld ⊢
              refine pure_ (i := 0) (N := some 37) (v := ?_) (a' := ?_) #[true, false, false, false, false, false, false, false, false, false, false, false] rfl rfl (any_of HT_.out (by kernel_rfl)) (fun _ _ _ h => h) (Or.inl ⟨by rfl, ?_⟩) ?_ ?_
              rotate_left
              ·intro w'
               go_simp
               with_reducible rfl
              rotate_left
              ·simp only [Act.put, zJ, zK, zL, i64_w, i32_w]
               rfl
              refine pure_ (i := 1) (N := some 38) (v := ?_) (a' := ?_) #[true, true, false, false, false, false, false, false, false, false, false, false] rfl rfl (any_of HT_.out (by kernel_rfl)) (fun _ _ _ h => h) (Or.inl ⟨by rfl, ?_⟩) ?_ ?_
              rotate_left
              ·intro w'
               go_simp
               with_reducible rfl
              rotate_left
              ·simp only [Act.put, zJ, zK, zL, i64_w, i32_w]
               rfl
              refine pure_ (i := 2) (N := some 39) (v := ?_) (a' := ?_) #[true, true, true, false, false, false, false, false, false, false, false, false] rfl rfl (any_of HT_.out (by kernel_rfl)) (fun _ _ _ h => h) (Or.inl ⟨by rfl, ?_⟩) ?_ ?_
              rotate_left
              ·intro w'
               go_simp
               with_reducible rfl
              rotate_left
              ·simp only [Act.put, zJ, zK, zL, i64_w, i32_w]
               rfl
              refine pure_ (i := 6) (N := some 43) (v := ?_) (a' := ?_) #[true, true, true, false, false, false, true, false, false, false, false, false] rfl rfl (any_of HT_.out (by kernel_rfl)) (fun _ _ _ h => h) (Or.inl ⟨by rfl, ?_⟩) ?_ ?_
              rotate_left
              ·intro w'
               go_simp
               with_reducible rfl
              rotate_left
              ·simp only [Act.put, zJ, zK, zL, i64_w, i32_w]
               rfl
              refine take_ (i := 3) (N := some 40) (v := ?_) (a' := ?_) #[true, true, true, true, false, false, true, false, false, false, false, false] rfl rfl (take_ofW HT_.out HW_.out (by kernel_rfl)) (fun _ _ _ h => h) (Or.inl ⟨by rfl, ?_⟩) hHeld ?_ ?_
              rotate_left
              ·rintro w' ⟨s0, s1⟩
               go_simp
               with_reducible rfl
              rotate_left
              ·simp only [Act.put, zJ, zK, zL, i64_w, i32_w]
               rfl
              refine pure_ (i := 4) (N := some 41) (v := ?_) (a' := ?_) #[true, true, true, true, true, false, true, false, false, false, false, false] rfl rfl (any_of HT_.out (by kernel_rfl)) (fun _ _ _ h => h) (Or.inl ⟨by rfl, ?_⟩) ?_ ?_
              rotate_left
              ·intro w'
               go_simp
               with_reducible rfl
              rotate_left
              ·simp only [Act.put, zJ, zK, zL, i64_w, i32_w]
               rfl
              refine pure_ (i := 5) (N := some 42) (v := ?_) (a' := ?_) #[true, true, true, true, true, true, true, false, false, false, false, false] rfl rfl (any_of HT_.out (by kernel_rfl)) (fun _ _ _ h => h) (Or.inl ⟨by rfl, ?_⟩) ?_ ?_
              rotate_left
              ·intro w'
               go_simp
               with_reducible rfl
              rotate_left
              ·simp only [Act.put, zJ, zK, zL, i64_w, i32_w]
               rfl
              refine take_ (i := 7) (N := some 44) (v := ?_) (a' := ?_) #[true, true, true, true, true, true, true, true, false, false, false, false] rfl rfl (take_ofW HT_.out HW_.out (by kernel_rfl)) (fun _ _ _ h => h) (Or.inl ⟨by rfl, ?_⟩) hHeld ?_ ?_
              rotate_left
              ·rintro w' ⟨s0, s1⟩
               go_simp
               with_reducible rfl
              rotate_left
              ·simp only [Act.put, zJ, zK, zL, i64_w, i32_w]
               rfl
              refine one_ (i := 8) (N := some 45) #[true, true, true, true, true, true, true, true, true, false, false, false] rfl rfl (one_of HT_.out (by kernel_rfl)) (by decide) (fun K hK => ?_)
              refine goes_ Tryd.func53 (by kernel_rfl) rfl #[.string ((rd_T64 t316 x30_2).f1)] (by rfl) rfl rfl (by (try simp only [zP, zQ, zR]); first | done | rfl | (simp only [zS, zT]; rfl)) ?_
              with_reducible refine (purl_escaped.calls ((rd_T64 t316 x30_2).f1) t324 _ A29.out).mono ?_
              rintro e w37 ⟨rfl, hb⟩
              refine ⟨_, rfl, ?_⟩
              have n0_ := Aq.mk (yj (by (with_reducible repeat (first | apply zC | apply zB | apply zD)); exact HO_28.out) hb)
              have n1_ := Aq.mk (yj (by (with_reducible repeat (first | apply zC | apply zB | apply zD)); exact HO_311004.out) hb)
              have n2_ := Aq.mk (zw (g := gb310) (o := .cells #[.string t312, .string t313, .string t314, .string t315, .slice (some ad322) t316.length co13, .string t319] 24 (0, 0)) (by (with_reducible repeat (first | refine zg ?_ _ | refine zi ?_ | refine zh ?_ _)); exact BK310.out) hb)
              have n3_ := Aq.mk (zw (g := gb323) (o := .cells #[.string ((rd_T64 t316 x30_2).f0), .string ((rd_T64 t316 x30_2).f1)] 64 (0, 0)) (by (with_reducible repeat (first | refine zg ?_ _ | refine zi ?_ | refine zh ?_ _)); exact BK323.out) hb)
              have n4_ := Aq.mk (zv (by repeat (with_reducible first | exact HB.out | apply zd | apply zb | apply zc | refine zf ?_ GE310.out | refine zf ?_ GE323.out)) hb)
              clear HO_28
              clear HO_311004
              clear BK310
              clear BK323
              clear HB
              have HO_28 := n0_
              have HO_311004 := n1_
              have BK310 := n2_
              have BK323 := n3_
              have HB := n4_
              clear n0_ n1_ n2_ n3_ n4_
              (try clear hb)
              (try clear hb2)
              (try clear hk)
              (try clear hi)
              refine hK.out _ _ ⟨(ze BK323.out 0).trans rfl, (ze BK323.out 1).trans rfl⟩ (fun hHeld => ?_)
              clear hK K
              refine norm_ (a' := ?_) ?_ ?_
              rotate_left
              ·show Act.put _ (some 45) _ = _
               simp only [Act.put, zJ, zK, zL, i64_w, i32_w]
               rfl
              refine pure_ (i := 9) (N := some 46) (v := ?_) (a' := ?_) #[true, true, true, true, true, true, true, true, true, true, false, false] rfl rfl (any_of HT_.out (by kernel_rfl)) (fun _ _ _ h => h) (Or.inl ⟨by rfl, ?_⟩) ?_ ?_
              rotate_left
              ·intro w'
               go_simp
               with_reducible rfl
              rotate_left
              ·simp only [Act.put, zJ, zK, zL, i64_w, i32_w]
               rfl
              refine pure_ (i := 10) (N := some 47) (v := ?_) (a' := ?_) #[true, true, true, true, true, true, true, true, true, true, true, false] rfl rfl (any_of HT_.out (by kernel_rfl)) (fun _ _ _ h => h) (Or.inl ⟨by rfl, ?_⟩) ?_ ?_
              rotate_left
              ·intro w'
               go_simp
               with_reducible rfl
              rotate_left
              ·simp only [Act.put, zJ, zK, zL, i64_w, i32_w]
               rfl
              refine pure_ (i := 11) (N := some 5) (v := ?_) (a' := ?_) #[true, true, true, true, true, true, true, true, true, true, true, true] rfl rfl (any_of HT_.out (by kernel_rfl)) (fun _ _ _ h => h) (Or.inl ⟨by rfl, ?_⟩) ?_ ?_
              rotate_left
              ·intro w'
               go_simp
               with_reducible rfl
              rotate_left
              ·simp only [Act.put, zJ, zK, zL, i64_w, i32_w]
               rfl
              refine done_ (done_of HT_.out (by kernel_rfl)) ?_
              try go_wp2
              go_roundg k2
              case measure => have := HJ5.out; have := HK2.out; omega
              case rel => exact ⟨(x5_2 ++ ((((⟨#[63]⟩ : ByteArray) ++ ((rd_T64 t316 x30_2).f0)) ++ (⟨#[61]⟩ : ByteArray)) ++ t324)), (wrap64 (x30_2 + 1)), (by first | rfl | (simp; done) | (simp [*]; done)), (by first | rfl | (simp; done) | (simp [*]; done)), H', ⟨by have := HJ5.out; have := HK2.out; omega⟩, ⟨by (with_reducible repeat (first | apply zC | apply zB | apply zD)); exact Kd.R_mono HO_28.out (fun _ hk => trivial)⟩, ⟨by (with_reducible repeat (first | apply zC | apply zB | apply zD)); exact Kd.R_mono HO_311004.out (fun _ hk => trivial)⟩, ⟨by (with_reducible repeat (first | refine zg ?_ _ | refine zi ?_ | refine zh ?_ _)); exact BK310.out⟩, ⟨by repeat (with_reducible first | exact HB.out | apply zd | apply zb | apply zc | refine zf ?_ GE310.out | refine zf ?_ GE323.out)⟩⟩
             ·rw [if_neg c31] at H
              exact absurd H (by simp)
            ·rw [if_neg c30] at H
             exact absurd H (by simp)
           ·rw [if_neg c28] at H
            exact absurd H (by simp)
          ·rw [if_neg c27] at H
           exact absurd H (by simp)
         ·rw [if_neg c26] at H
          have c26b0 : (x30_2 == 0) = false := ye.mpr c26
          have c26b1 : (x30_2 != 0) = true := yd.mpr c26
          by_cases c38 : 1 + ((rd_T64 t316 x30_2).f0).size ≤ 9223372036854775807
          ·rw [if_pos c38] at H
           have c38b0 := eq_true c38
           have c38b1 : decide (1 + ((rd_T64 t316 x30_2).f0).size ≤ 9223372036854775807) = true := zk c38
           try have c38b2 : (9223372036854775807 < 1 + ((rd_T64 t316 x30_2).f0).size) = False := eq_false (Nat.not_lt.2 c38)
           by_cases c39 : ((⟨#[38]⟩ : ByteArray) ++ ((rd_T64 t316 x30_2).f0)).size + 1 ≤ 9223372036854775807
           ·rw [if_pos c39] at H
            have c39b0 := eq_true c39
            have c39b1 : decide (((⟨#[38]⟩ : ByteArray) ++ ((rd_T64 t316 x30_2).f0)).size + 1 ≤ 9223372036854775807) = true := zk c39
            try have c39b2 : (9223372036854775807 < ((⟨#[38]⟩ : ByteArray) ++ ((rd_T64 t316 x30_2).f0)).size + 1) = False := eq_false (Nat.not_lt.2 c39)
            try have c39b3 : (9223372036854775807 < 1 + ((rd_T64 t316 x30_2).f0).size + 1) = False := by have h_ := c39; simp only [ByteArray.size_append] at h_; exact eq_false (Nat.not_lt.2 h_)
            try have c39b4 : (1 + ((rd_T64 t316 x30_2).f0).size + 1 ≤ 9223372036854775807) = True := by have h_ := c39; simp only [ByteArray.size_append] at h_; exact eq_true h_
            replace H := zu.mp H
            obtain ⟨t325, A400, H⟩ := H
            replace H : (if (((⟨#[38]⟩ : ByteArray) ++ ((rd_T64 t316 x30_2).f0)) ++ (⟨#[61]⟩ : ByteArray)).size + t325.size ≤ 9223372036854775807 then (if x5_2.size + ((((⟨#[38]⟩ : ByteArray) ++ ((rd_T64 t316 x30_2).f0)) ++ (⟨#[61]⟩ : ByteArray)) ++ t325).size ≤ 9223372036854775807 then (purl_Print.l0 k2 (x5_2 ++ ((((⟨#[38]⟩ : ByteArray) ++ ((rd_T64 t316 x30_2).f0)) ++ (⟨#[61]⟩ : ByteArray)) ++ t325)) t316 (t316.length : Int) (wrap64 (x30_2 + 1)) t312 t313 t314 t315 t316 t319) else (none)) else (none)) = some (r1, r2) := H
            have A40 := Aq.mk A400
            clear A400
            by_cases c41 : (((⟨#[38]⟩ : ByteArray) ++ ((rd_T64 t316 x30_2).f0)) ++ (⟨#[61]⟩ : ByteArray)).size + t325.size ≤ 9223372036854775807
            ·rw [if_pos c41] at H
             have c41b0 := eq_true c41
             have c41b1 : decide ((((⟨#[38]⟩ : ByteArray) ++ ((rd_T64 t316 x30_2).f0)) ++ (⟨#[61]⟩ : ByteArray)).size + t325.size ≤ 9223372036854775807) = true := zk c41
             try have c41b2 : (9223372036854775807 < (((⟨#[38]⟩ : ByteArray) ++ ((rd_T64 t316 x30_2).f0)) ++ (⟨#[61]⟩ : ByteArray)).size + t325.size) = False := eq_false (Nat.not_lt.2 c41)
             try have c41b3 : (9223372036854775807 < 1 + ((rd_T64 t316 x30_2).f0).size + 1 + t325.size) = False := by have h_ := c41; simp only [ByteArray.size_append] at h_; exact eq_false (Nat.not_lt.2 h_)
             try have c41b4 : (1 + ((rd_T64 t316 x30_2).f0).size + 1 + t325.size ≤ 9223372036854775807) = True := by have h_ := c41; simp only [ByteArray.size_append] at h_; exact eq_true h_
             by_cases c42 : x5_2.size + ((((⟨#[38]⟩ : ByteArray) ++ ((rd_T64 t316 x30_2).f0)) ++ (⟨#[61]⟩ : ByteArray)) ++ t325).size ≤ 9223372036854775807
             ·rw [if_pos c42] at H
              have c42b0 := eq_true c42
              have c42b1 : decide (x5_2.size + ((((⟨#[38]⟩ : ByteArray) ++ ((rd_T64 t316 x30_2).f0)) ++ (⟨#[61]⟩ : ByteArray)) ++ t325).size ≤ 9223372036854775807) = true := zk c42
              try have c42b2 : (9223372036854775807 < x5_2.size + ((((⟨#[38]⟩ : ByteArray) ++ ((rd_T64 t316 x30_2).f0)) ++ (⟨#[61]⟩ : ByteArray)) ++ t325).size) = False := eq_false (Nat.not_lt.2 c42)
              try have c42b3 : (9223372036854775807 < x5_2.size + (1 + ((rd_T64 t316 x30_2).f0).size + 1 + t325.size)) = False := by have h_ := c42; simp only [ByteArray.size_append] at h_; exact eq_false (Nat.not_lt.2 h_)
              try have c42b4 : (x5_2.size + (1 + ((rd_T64 t316 x30_2).f0).size + 1 + t325.size) ≤ 9223372036854775807) = True := by have h_ := c42; simp only [ByteArray.size_append] at h_; exact eq_true h_
              have H' := Aq.mk H
              clear H
              have p322 : 0 ≤ (x30_2 : Int) := zj (by assumption)
              have q322 : x30_2 < (t316.length : Int) := zj (by assumption)
              obtain ⟨ad322, e322, hx322_0, hx322_1⟩ := at_T64 (Kd.R_reads' HO_28.out).2.2 x30_2 p322 q322
              cases e322
              replace p322 := eq_true p322
              replace q322 := eq_true q322
              try go_wp2_with (first | ((with_reducible refine gate_dst (N := 7) rfl ?_); refine box_event ?hg (N := 7) ?hd (cs := #[.string (⟨#[]⟩ : ByteArray), .string (⟨#[]⟩ : ByteArray)]) (t := 64) ?hr ?_; (case hd => rfl); (case hg => rfl); (case hr => first | (go_simp; done) | (go_simp; rfl)); intro gb323 hg w43 hbox hb; have n0_ := Aq.mk (yj (Kd.R_elderB (by (with_reducible repeat (first | apply zC | apply zB | apply zD)); exact HO_28.out) gb323 (Nat.le_of_eq hg.symm)) hb); have n1_ := Aq.mk (yj (Kd.R_elderB (by (with_reducible repeat (first | apply zC | apply zB | apply zD)); exact HO_311004.out) gb323 (Nat.le_of_eq hg.symm)) hb); have n2_ := Aq.mk (zw (g := gb310) (o := .cells #[.string t312, .string t313, .string t314, .string t315, .slice (some ad322) t316.length co13, .string t319] 24 (0, 0)) (by (with_reducible repeat (first | refine zg ?_ _ | refine zi ?_ | refine zh ?_ _)); exact BK310.out) hb); have n3_ := Aq.mk (zv (by repeat (with_reducible first | exact HB.out | apply zd | apply zb | apply zc | refine zf ?_ GE310.out)) hb); have n4_ := Aq.mk (hbox); have n5_ := Aq.mk ((by rw [hg]; exact (zz (by repeat (with_reducible first | exact HB.out | apply zd | apply zb | apply zc | refine zf ?_ GE310.out))) : w.heap.size ≤ gb323)); have n6_ := Aq.mk ((by rw [hg]; exact (zz (by repeat (with_reducible first | exact HB.out | apply zd | apply zb | apply zc | refine zf ?_ GE310.out))) : w.heap.size ≤ gb323)); have n7_ := Aq.mk ((by rw [hg]; exact Nat.ne_of_lt (zA (g := gb310) (o := .cells #[.string t312, .string t313, .string t314, .string t315, .slice (some ad322) t316.length co13, .string t319] 24 (0, 0)) (by (with_reducible repeat (first | refine zg ?_ _ | refine zi ?_ | refine zh ?_ _)); exact BK310.out)) : gb310 ≠ gb323)); have n8_ := Aq.mk ((by rw [hg]; exact Nat.ne_of_gt (zA (g := gb310) (o := .cells #[.string t312, .string t313, .string t314, .string t315, .slice (some ad322) t316.length co13, .string t319] 24 (0, 0)) (by (with_reducible repeat (first | refine zg ?_ _ | refine zi ?_ | refine zh ?_ _)); exact BK310.out)) : gb323 ≠ gb310)); clear HO_28; clear HO_311004; clear BK310; clear HB; have HO_28 := n0_; have HO_311004 := n1_; have BK310 := n2_; have HB := n3_; have BK323 := n4_; have GW323 := n5_; have GE323 := n6_; have NB310_323 := n7_; have NB323_310 := n8_; clear n0_ n1_ n2_ n3_ n4_ n5_ n6_ n7_ n8_; clear hb hbox hg; have hnb44 := NB323_310.out; have hnc44 := NB310_323.out; have hcz45_0 : w43.cell? ⟨gb323, 0, none⟩ = some (.string (⟨#[]⟩ : ByteArray)) := (ze BK323.out 0).trans rfl; have hcz45_1 : w43.cell? ⟨gb323, 1, none⟩ = some (.string (⟨#[]⟩ : ByteArray)) := (ze BK323.out 1).trans rfl; have hfz45_0 := za BK323.out 0; have hfz45_1 := za BK323.out 1))
              have n0_ : Aq (Kd.R k64 64 ((w43.setCell ⟨gb323, 0, none⟩ (.string ((rd_T64 t316 x30_2).f0))).setCell ⟨gb323, 1, none⟩ (.string ((rd_T64 t316 x30_2).f1))) w.heap.size (fun k_ => k_ ≠ gb323) (.slice (some ad322) t316.length co13) t316) := ⟨by (with_reducible repeat (first | apply zC | apply zB | apply zD)); exact Kd.R_mono (Kd.R_far (p := ⟨gb323, 1, none⟩) (Kd.R_far (p := ⟨gb323, 0, none⟩) (Kd.R_mono HO_28.out (fun k_ hk => (⟨hk, hk.2⟩ : _ ∧ k_ ≠ gb323))) (fun _ hk => hk.2) (.string ((rd_T64 t316 x30_2).f0))) (fun _ hk => hk.2) (.string ((rd_T64 t316 x30_2).f1))) (fun _ hk => hk.1.2)⟩
              have n1_ : Aq (Kd.R k64 64 ((w43.setCell ⟨gb323, 0, none⟩ (.string ((rd_T64 t316 x30_2).f0))).setCell ⟨gb323, 1, none⟩ (.string ((rd_T64 t316 x30_2).f1))) w.heap.size (fun k_ => k_ ≠ gb323) (.slice (some ad322) t316.length co13) t316) := ⟨by (with_reducible repeat (first | apply zC | apply zB | apply zD)); exact Kd.R_mono (Kd.R_far (p := ⟨gb323, 1, none⟩) (Kd.R_far (p := ⟨gb323, 0, none⟩) (Kd.R_mono HO_311004.out (fun k_ hk => (⟨hk, hk.2⟩ : _ ∧ k_ ≠ gb323))) (fun _ hk => hk.2) (.string ((rd_T64 t316 x30_2).f0))) (fun _ hk => hk.2) (.string ((rd_T64 t316 x30_2).f1))) (fun _ hk => hk.1.2)⟩
              have n2_ : Aq (((w43.setCell ⟨gb323, 0, none⟩ (.string ((rd_T64 t316 x30_2).f0))).setCell ⟨gb323, 1, none⟩ (.string ((rd_T64 t316 x30_2).f1))).heap[gb310]? = some (.cells #[.string t312, .string t313, .string t314, .string t315, .slice (some ad322) t316.length co13, .string t319] 24 (0, 0))) := ⟨by (with_reducible repeat (first | refine zg ?_ _ | refine zi ?_ | refine zh ?_ _)); refine zx ?_ NB310_323.out _; (with_reducible repeat (first | refine zg ?_ _ | refine zi ?_ | refine zh ?_ _)); refine zx ?_ NB310_323.out _; (with_reducible repeat (first | refine zg ?_ _ | refine zi ?_ | refine zh ?_ _)); exact BK310.out⟩
              have n3_ : Aq (((w43.setCell ⟨gb323, 0, none⟩ (.string ((rd_T64 t316 x30_2).f0))).setCell ⟨gb323, 1, none⟩ (.string ((rd_T64 t316 x30_2).f1))).heap[gb323]? = some (.cells #[.string ((rd_T64 t316 x30_2).f0), .string ((rd_T64 t316 x30_2).f1)] 64 (0, 0))) := ⟨by (with_reducible repeat (first | refine zg ?_ _ | refine zi ?_ | refine zh ?_ _)); refine zy (cs := #[.string ((rd_T64 t316 x30_2).f0), .string (⟨#[]⟩ : ByteArray)]) ?_ 1 _ rfl; (with_reducible repeat (first | refine zg ?_ _ | refine zi ?_ | refine zh ?_ _)); refine zy (cs := #[.string (⟨#[]⟩ : ByteArray), .string (⟨#[]⟩ : ByteArray)]) ?_ 0 _ rfl; (with_reducible repeat (first | refine zg ?_ _ | refine zi ?_ | refine zh ?_ _)); exact BK323.out⟩
              have n4_ : Aq (Below w.heap.size w ((w43.setCell ⟨gb323, 0, none⟩ (.string ((rd_T64 t316 x30_2).f0))).setCell ⟨gb323, 1, none⟩ (.string ((rd_T64 t316 x30_2).f1)))) := ⟨by repeat (with_reducible first | exact HB.out | apply zd | apply zb | apply zc | refine zf ?_ GE310.out | refine zf ?_ GE323.out)⟩
              (try clear HO_28)
              (try clear HO_311004)
              (try clear BK310)
              (try clear BK323)
              (try clear HB)
              generalize ((w43.setCell ⟨gb323, 0, none⟩ (.string ((rd_T64 t316 x30_2).f0))).setCell ⟨gb323, 1, none⟩ (.string ((rd_T64 t316 x30_2).f1))) = w46 at n0_ n1_ n2_ n3_ n4_ ⊢
              have HO_28 := n0_
              have HO_311004 := n1_
              have BK310 := n2_
              have BK323 := n3_
              have HB := n4_
              clear n0_ n1_ n2_ n3_ n4_
              have n0_ := Aq.mk (zD HO_28.out)
              have n1_ := Aq.mk (zD HO_311004.out)
              have n2_ := Aq.mk (zi BK310.out)
              have n3_ := Aq.mk (zi BK323.out)
              have n4_ := Aq.mk (zc HB.out)
              clear HO_28
              clear HO_311004
              clear BK310
              clear BK323
              clear HB
              have HO_28 := n0_
              have HO_311004 := n1_
              have BK310 := n2_
              have BK323 := n3_
              have HB := n4_
              clear n0_ n1_ n2_ n3_ n4_
              refine start_ (n := 12) (S := fun w' => w'.cell? ⟨gb323, 0, none⟩ = some (.string ((rd_T64 t316 x30_2).f0)) ∧ w'.cell? ⟨gb323, 1, none⟩ = some (.string ((rd_T64 t316 x30_2).f1))) (ds := []) #[false, false, false, false, false, false, false, false, false, false, false, false] (by kernel_rfl) rfl rfl ⟨(ze BK323.out 0).trans rfl, (ze BK323.out 1).trans rfl⟩ (fun hHeld => ?_); refine with_tabW purl_Print.tab14 purl_Print.bits14 (fun HT_ HW_ => ?_)
              generalize w46.drew = w47 at HO_28 HO_311004 BK310 BK323 HB hHeld ⊢
              refine pure_ (i := 0) (N := some 37) (v := ?_) (a' := ?_) #[true, false, false, false, false, false, false, false, false, false, false, false] rfl rfl (any_of HT_.out (by kernel_rfl)) (fun _ _ _ h => h) (Or.inl ⟨by rfl, ?_⟩) ?_ ?_
              rotate_left
              ·intro w'
               go_simp
               with_reducible rfl
              rotate_left
              ·simp only [Act.put, zJ, zK, zL, i64_w, i32_w]
               rfl
              refine pure_ (i := 1) (N := some 38) (v := ?_) (a' := ?_) #[true, true, false, false, false, false, false, false, false, false, false, false] rfl rfl (any_of HT_.out (by kernel_rfl)) (fun _ _ _ h => h) (Or.inl ⟨by rfl, ?_⟩) ?_ ?_
              rotate_left
              ·intro w'
               go_simp
               with_reducible rfl
              rotate_left
              ·simp only [Act.put, zJ, zK, zL, i64_w, i32_w]
               rfl
              refine pure_ (i := 2) (N := some 39) (v := ?_) (a' := ?_) #[true, true, true, false, false, false, false, false, false, false, false, false] rfl rfl (any_of HT_.out (by kernel_rfl)) (fun _ _ _ h => h) (Or.inl ⟨by rfl, ?_⟩) ?_ ?_
              rotate_left
              ·intro w'
               go_simp
               with_reducible rfl
              rotate_left
              ·simp only [Act.put, zJ, zK, zL, i64_w, i32_w]
               rfl
              refine pure_ (i := 6) (N := some 43) (v := ?_) (a' := ?_) #[true, true, true, false, false, false, true, false, false, false, false, false] rfl rfl (any_of HT_.out (by kernel_rfl)) (fun _ _ _ h => h) (Or.inl ⟨by rfl, ?_⟩) ?_ ?_
              rotate_left
              ·intro w'
               go_simp
               with_reducible rfl
              rotate_left
              ·simp only [Act.put, zJ, zK, zL, i64_w, i32_w]
               rfl
              refine take_ (i := 3) (N := some 40) (v := ?_) (a' := ?_) #[true, true, true, true, false, false, true, false, false, false, false, false] rfl rfl (take_ofW HT_.out HW_.out (by kernel_rfl)) (fun _ _ _ h => h) (Or.inl ⟨by rfl, ?_⟩) hHeld ?_ ?_
              rotate_left
              ·rintro w' ⟨s0, s1⟩
               go_simp
               with_reducible rfl
              rotate_left
              ·simp only [Act.put, zJ, zK, zL, i64_w, i32_w]
               rfl
              refine pure_ (i := 4) (N := some 41) (v := ?_) (a' := ?_) #[true, true, true, true, true, false, true, false, false, false, false, false] rfl rfl (any_of HT_.out (by kernel_rfl)) (fun _ _ _ h => h) (Or.inl ⟨by rfl, ?_⟩) ?_ ?_
              rotate_left
              ·intro w'
               go_simp
               with_reducible rfl
              rotate_left
              ·simp only [Act.put, zJ, zK, zL, i64_w, i32_w]
               rfl
              refine pure_ (i := 5) (N := some 42) (v := ?_) (a' := ?_) #[true, true, true, true, true, true, true, false, false, false, false, false] rfl rfl (any_of HT_.out (by kernel_rfl)) (fun _ _ _ h => h) (Or.inl ⟨by rfl, ?_⟩) ?_ ?_
              rotate_left
              ·intro w'
               go_simp
               with_reducible rfl
              rotate_left
              ·simp only [Act.put, zJ, zK, zL, i64_w, i32_w]
               rfl
              refine take_ (i := 7) (N := some 44) (v := ?_) (a' := ?_) #[true, true, true, true, true, true, true, true, false, false, false, false] rfl rfl (take_ofW HT_.out HW_.out (by kernel_rfl)) (fun _ _ _ h => h) (Or.inl ⟨by rfl, ?_⟩) hHeld ?_ ?_
              rotate_left
              ·rintro w' ⟨s0, s1⟩
               go_simp
               with_reducible rfl
              rotate_left
              ·simp only [Act.put, zJ, zK, zL, i64_w, i32_w]
               rfl
              refine one_ (i := 8) (N := some 45) #[true, true, true, true, true, true, true, true, true, false, false, false] rfl rfl (one_of HT_.out (by kernel_rfl)) (by decide) (fun K hK => ?_)
              refine goes_ Tryd.func53 (by kernel_rfl) rfl #[.string ((rd_T64 t316 x30_2).f1)] (by rfl) rfl rfl (by (try simp only [zP, zQ, zR]); first | done | rfl | (simp only [zS, zT]; rfl)) ?_
              with_reducible refine (purl_escaped.calls ((rd_T64 t316 x30_2).f1) t325 _ A40.out).mono ?_
              rintro e w48 ⟨rfl, hb⟩
              refine ⟨_, rfl, ?_⟩
              have n0_ := Aq.mk (yj (by (with_reducible repeat (first | apply zC | apply zB | apply zD)); exact HO_28.out) hb)
              have n1_ := Aq.mk (yj (by (with_reducible repeat (first | apply zC | apply zB | apply zD)); exact HO_311004.out) hb)
              have n2_ := Aq.mk (zw (g := gb310) (o := .cells #[.string t312, .string t313, .string t314, .string t315, .slice (some ad322) t316.length co13, .string t319] 24 (0, 0)) (by (with_reducible repeat (first | refine zg ?_ _ | refine zi ?_ | refine zh ?_ _)); exact BK310.out) hb)
              have n3_ := Aq.mk (zw (g := gb323) (o := .cells #[.string ((rd_T64 t316 x30_2).f0), .string ((rd_T64 t316 x30_2).f1)] 64 (0, 0)) (by (with_reducible repeat (first | refine zg ?_ _ | refine zi ?_ | refine zh ?_ _)); exact BK323.out) hb)
              have n4_ := Aq.mk (zv (by repeat (with_reducible first | exact HB.out | apply zd | apply zb | apply zc | refine zf ?_ GE310.out | refine zf ?_ GE323.out)) hb)
              clear HO_28
              clear HO_311004
              clear BK310
              clear BK323
              clear HB
              have HO_28 := n0_
              have HO_311004 := n1_
              have BK310 := n2_
              have BK323 := n3_
              have HB := n4_
              clear n0_ n1_ n2_ n3_ n4_
              (try clear hb)
              (try clear hb2)
              (try clear hk)
              (try clear hi)
              refine hK.out _ _ ⟨(ze BK323.out 0).trans rfl, (ze BK323.out 1).trans rfl⟩ (fun hHeld => ?_)
              clear hK K
              refine norm_ (a' := ?_) ?_ ?_
              rotate_left
              ·show Act.put _ (some 45) _ = _
               simp only [Act.put, zJ, zK, zL, i64_w, i32_w]
               rfl
              refine pure_ (i := 9) (N := some 46) (v := ?_) (a' := ?_) #[true, true, true, true, true, true, true, true, true, true, false, false] rfl rfl (any_of HT_.out (by kernel_rfl)) (fun _ _ _ h => h) (Or.inl ⟨by rfl, ?_⟩) ?_ ?_
              rotate_left
              ·intro w'
               go_simp
               with_reducible rfl
              rotate_left
              ·simp only [Act.put, zJ, zK, zL, i64_w, i32_w]
               rfl
              refine pure_ (i := 10) (N := some 47) (v := ?_) (a' := ?_) #[true, true, true, true, true, true, true, true, true, true, true, false] rfl rfl (any_of HT_.out (by kernel_rfl)) (fun _ _ _ h => h) (Or.inl ⟨by rfl, ?_⟩) ?_ ?_
              rotate_left
              ·intro w'
               go_simp
               with_reducible rfl
              rotate_left
              ·simp only [Act.put, zJ, zK, zL, i64_w, i32_w]
               rfl
              refine pure_ (i := 11) (N := some 5) (v := ?_) (a' := ?_) #[true, true, true, true, true, true, true, true, true, true, true, true] rfl rfl (any_of HT_.out (by kernel_rfl)) (fun _ _ _ h => h) (Or.inl ⟨by rfl, ?_⟩) ?_ ?_
              rotate_left
              ·intro w'
               go_simp
               with_reducible rfl
              rotate_left
              ·simp only [Act.put, zJ, zK, zL, i64_w, i32_w]
               rfl
              refine done_ (done_of HT_.out (by kernel_rfl)) ?_
              try go_wp2
              go_roundg k2
              case measure => have := HJ5.out; have := HK2.out; omega
              case rel => exact ⟨(x5_2 ++ ((((⟨#[38]⟩ : ByteArray) ++ ((rd_T64 t316 x30_2).f0)) ++ (⟨#[61]⟩ : ByteArray)) ++ t325)), (wrap64 (x30_2 + 1)), (by first | rfl | (simp; done) | (simp [*]; done)), (by first | rfl | (simp; done) | (simp [*]; done)), H', ⟨by have := HJ5.out; have := HK2.out; omega⟩, ⟨by (with_reducible repeat (first | apply zC | apply zB | apply zD)); exact Kd.R_mono HO_28.out (fun _ hk => trivial)⟩, ⟨by (with_reducible repeat (first | apply zC | apply zB | apply zD)); exact Kd.R_mono HO_311004.out (fun _ hk => trivial)⟩, ⟨by (with_reducible repeat (first | refine zg ?_ _ | refine zi ?_ | refine zh ?_ _)); exact BK310.out⟩, ⟨by repeat (with_reducible first | exact HB.out | apply zd | apply zb | apply zc | refine zf ?_ GE310.out | refine zf ?_ GE323.out)⟩⟩
             ·rw [if_neg c42] at H
              exact absurd H (by simp)
            ·rw [if_neg c41] at H
             exact absurd H (by simp)
           ·rw [if_neg c39] at H
            exact absurd H (by simp)
          ·rw [if_neg c38] at H
           exact absurd H (by simp)
        ·rw [if_neg c25] at H
         exact absurd H (by simp)
       ·rw [if_neg c24] at H
        exact absurd H (by simp)
      ·rw [if_neg c23] at H
       have c23b0 : decide (x30_2 < (t316.length : Int)) = false := zl c23
       clear c23
       by_cases c49 : t319.toList = ([] : List UInt8)
       ·rw [if_pos c49] at H
        have c49b0 : (t319.toList == ([] : List UInt8)) = true := yc.mpr c49
        have c49b1 : (t319.toList != ([] : List UInt8)) = false := yf.mpr c49
        have c49bE : (!(t319).toList.isEmpty) = false := by rw [List.isEmpty_iff.2 c49]; rfl
        clear c49
        by_cases c50 : (x5_2.size : Int) > 3000
        ·rw [if_pos c50] at H
         have c50b0 : decide (3000 < (x5_2.size : Int)) = true := zk c50
         have c50b1 : decide (3000 < x5_2.size) = true := zk (by omega)
         clear c50
         simp only [zH, zI] at H
         obtain ⟨rfl, rfl⟩ := H
         have hcz51_0 : wr.cell? ⟨gb310, 0, none⟩ = some (.string t312) := (ze BK310.out 0).trans rfl
         have hcz51_1 : wr.cell? ⟨gb310, 1, none⟩ = some (.string t313) := (ze BK310.out 1).trans rfl
         have hcz51_2 : wr.cell? ⟨gb310, 2, none⟩ = some (.string t314) := (ze BK310.out 2).trans rfl
         have hcz51_3 : wr.cell? ⟨gb310, 3, none⟩ = some (.string t315) := (ze BK310.out 3).trans rfl
         have hcz51_4 : wr.cell? ⟨gb310, 4, none⟩ = some (.slice Ao13 t316.length co13) := (ze BK310.out 4).trans rfl
         have hcz51_5 : wr.cell? ⟨gb310, 5, none⟩ = some (.string t319) := (ze BK310.out 5).trans rfl
         have hfz51_0 := za BK310.out 0
         have hfz51_1 := za BK310.out 1
         have hfz51_2 := za BK310.out 2
         have hfz51_3 := za BK310.out 3
         have hfz51_4 := za BK310.out 4
         have hfz51_5 := za BK310.out 5
         go_wp2
         go_ret2
         exact ⟨by first | rfl | (simp [yl, ym] <;> rfl) | (simp [*, yl, ym] <;> rfl), by repeat (with_reducible first | exact HB.out | apply zd | apply zb | apply zc | refine zf ?_ GE310.out)⟩
        ·rw [if_neg c50] at H
         have c50b0 : decide (3000 < (x5_2.size : Int)) = false := zl c50
         have c50b1 : decide (3000 < x5_2.size) = false := zl (by omega)
         clear c50
         simp only [zH, zI] at H
         obtain ⟨rfl, rfl⟩ := H
         have hcz52_0 : wr.cell? ⟨gb310, 0, none⟩ = some (.string t312) := (ze BK310.out 0).trans rfl
         have hcz52_1 : wr.cell? ⟨gb310, 1, none⟩ = some (.string t313) := (ze BK310.out 1).trans rfl
         have hcz52_2 : wr.cell? ⟨gb310, 2, none⟩ = some (.string t314) := (ze BK310.out 2).trans rfl
         have hcz52_3 : wr.cell? ⟨gb310, 3, none⟩ = some (.string t315) := (ze BK310.out 3).trans rfl
         have hcz52_4 : wr.cell? ⟨gb310, 4, none⟩ = some (.slice Ao13 t316.length co13) := (ze BK310.out 4).trans rfl
         have hcz52_5 : wr.cell? ⟨gb310, 5, none⟩ = some (.string t319) := (ze BK310.out 5).trans rfl
         have hfz52_0 := za BK310.out 0
         have hfz52_1 := za BK310.out 1
         have hfz52_2 := za BK310.out 2
         have hfz52_3 := za BK310.out 3
         have hfz52_4 := za BK310.out 4
         have hfz52_5 := za BK310.out 5
         go_wp2
         go_ret2
         exact ⟨by first | rfl | (simp [yl, ym] <;> rfl) | (simp [*, yl, ym] <;> rfl), by repeat (with_reducible first | exact HB.out | apply zd | apply zb | apply zc | refine zf ?_ GE310.out)⟩
       ·rw [if_neg c49] at H
        have c49b0 : (t319.toList == ([] : List UInt8)) = false := ye.mpr c49
        have c49b1 : (t319.toList != ([] : List UInt8)) = true := yd.mpr c49
        have c49bE : (!(t319).toList.isEmpty) = true := by
         cases h_ : (t319).toList with
         | nil => exact absurd h_ c49
         | cons _ _ => rfl
        replace H := zu.mp H
        obtain ⟨t326, A530, H⟩ := H
        replace H : (if 1 + t326.size ≤ 9223372036854775807 then (if x5_2.size + ((⟨#[35]⟩ : ByteArray) ++ t326).size ≤ 9223372036854775807 then (if ((x5_2 ++ ((⟨#[35]⟩ : ByteArray) ++ t326)).size : Int) > 3000 then (some ((⟨#[]⟩ : ByteArray), 3)) else (some (x5_2 ++ ((⟨#[35]⟩ : ByteArray) ++ t326), 0))) else (none)) else (none)) = some (r1, r2) := H
        have A53 := Aq.mk A530
        clear A530
        by_cases c54 : 1 + t326.size ≤ 9223372036854775807
        ·rw [if_pos c54] at H
         have c54b0 := eq_true c54
         have c54b1 : decide (1 + t326.size ≤ 9223372036854775807) = true := zk c54
         try have c54b2 : (9223372036854775807 < 1 + t326.size) = False := eq_false (Nat.not_lt.2 c54)
         by_cases c55 : x5_2.size + ((⟨#[35]⟩ : ByteArray) ++ t326).size ≤ 9223372036854775807
         ·rw [if_pos c55] at H
          have c55b0 := eq_true c55
          have c55b1 : decide (x5_2.size + ((⟨#[35]⟩ : ByteArray) ++ t326).size ≤ 9223372036854775807) = true := zk c55
          try have c55b2 : (9223372036854775807 < x5_2.size + ((⟨#[35]⟩ : ByteArray) ++ t326).size) = False := eq_false (Nat.not_lt.2 c55)
          try have c55b3 : (9223372036854775807 < x5_2.size + (1 + t326.size)) = False := by have h_ := c55; simp only [ByteArray.size_append] at h_; exact eq_false (Nat.not_lt.2 h_)
          try have c55b4 : (x5_2.size + (1 + t326.size) ≤ 9223372036854775807) = True := by have h_ := c55; simp only [ByteArray.size_append] at h_; exact eq_true h_
          by_cases c56 : ((x5_2 ++ ((⟨#[35]⟩ : ByteArray) ++ t326)).size : Int) > 3000
          ·rw [if_pos c56] at H
           have c56b0 : decide (3000 < ((x5_2 ++ ((⟨#[35]⟩ : ByteArray) ++ t326)).size : Int)) = true := zk c56
           have c56bS : decide (3000 < (x5_2.size : Int) + (1 + (t326.size : Int))) = true := by have h_ := c56; simp only [ByteArray.size_append, Int.natCast_add] at h_; exact zk h_
           have c56b1 : decide (3000 < (x5_2 ++ ((⟨#[35]⟩ : ByteArray) ++ t326)).size) = true := zk (by omega)
           clear c56
           simp only [zH, zI] at H
           obtain ⟨rfl, rfl⟩ := H
           have hcz57_0 : wr.cell? ⟨gb310, 0, none⟩ = some (.string t312) := (ze BK310.out 0).trans rfl
           have hcz57_1 : wr.cell? ⟨gb310, 1, none⟩ = some (.string t313) := (ze BK310.out 1).trans rfl
           have hcz57_2 : wr.cell? ⟨gb310, 2, none⟩ = some (.string t314) := (ze BK310.out 2).trans rfl
           have hcz57_3 : wr.cell? ⟨gb310, 3, none⟩ = some (.string t315) := (ze BK310.out 3).trans rfl
           have hcz57_4 : wr.cell? ⟨gb310, 4, none⟩ = some (.slice Ao13 t316.length co13) := (ze BK310.out 4).trans rfl
           have hcz57_5 : wr.cell? ⟨gb310, 5, none⟩ = some (.string t319) := (ze BK310.out 5).trans rfl
           have hfz57_0 := za BK310.out 0
           have hfz57_1 := za BK310.out 1
           have hfz57_2 := za BK310.out 2
           have hfz57_3 := za BK310.out 3
           have hfz57_4 := za BK310.out 4
           have hfz57_5 := za BK310.out 5
           go_wp2_with (first | ((with_reducible refine gate_callee (f := 54) rfl ?_); refine goesL_ (some 55) rfl rfl Tryd.func54 (by kernel_rfl) rfl #[.string t319] rfl (by (try simp only [zP, zQ, zR]); first | done | rfl | (simp only [zS, zT]; rfl)) ?_; (with_reducible refine (purl_path.calls k2 t319 t326 _ A53.out).mono ?_); rintro e w58 ⟨rfl, hb⟩; refine ⟨_, rfl, ?_⟩; have n0_ := Aq.mk (yj (by (with_reducible repeat (first | apply zC | apply zB | apply zD)); exact HO_28.out) hb); have n1_ := Aq.mk (yj (by (with_reducible repeat (first | apply zC | apply zB | apply zD)); exact HO_311004.out) hb); have n2_ := Aq.mk (zw (g := gb310) (o := .cells #[.string t312, .string t313, .string t314, .string t315, .slice Ao13 t316.length co13, .string t319] 24 (0, 0)) (by (with_reducible repeat (first | refine zg ?_ _ | refine zi ?_ | refine zh ?_ _)); exact BK310.out) hb); have n3_ := Aq.mk (zv (by repeat (with_reducible first | exact HB.out | apply zd | apply zb | apply zc | refine zf ?_ GE310.out)) hb); clear HO_28; clear HO_311004; clear BK310; clear HB; have HO_28 := n0_; have HO_311004 := n1_; have BK310 := n2_; have HB := n3_; clear n0_ n1_ n2_ n3_; (try clear hb); (try clear hb2); (try clear hk); (try clear hi)))
           go_ret2
           exact ⟨by first | rfl | (simp [yl, ym] <;> rfl) | (simp [*, yl, ym] <;> rfl), by repeat (with_reducible first | exact HB.out | apply zd | apply zb | apply zc | refine zf ?_ GE310.out)⟩
          ·rw [if_neg c56] at H
           have c56b0 : decide (3000 < ((x5_2 ++ ((⟨#[35]⟩ : ByteArray) ++ t326)).size : Int)) = false := zl c56
           have c56bS : decide (3000 < (x5_2.size : Int) + (1 + (t326.size : Int))) = false := by have h_ := c56; simp only [ByteArray.size_append, Int.natCast_add] at h_; exact zl h_
           have c56b1 : decide (3000 < (x5_2 ++ ((⟨#[35]⟩ : ByteArray) ++ t326)).size) = false := zl (by omega)
           clear c56
           simp only [zH, zI] at H
           obtain ⟨rfl, rfl⟩ := H
           have hcz59_0 : wr.cell? ⟨gb310, 0, none⟩ = some (.string t312) := (ze BK310.out 0).trans rfl
           have hcz59_1 : wr.cell? ⟨gb310, 1, none⟩ = some (.string t313) := (ze BK310.out 1).trans rfl
           have hcz59_2 : wr.cell? ⟨gb310, 2, none⟩ = some (.string t314) := (ze BK310.out 2).trans rfl
           have hcz59_3 : wr.cell? ⟨gb310, 3, none⟩ = some (.string t315) := (ze BK310.out 3).trans rfl
           have hcz59_4 : wr.cell? ⟨gb310, 4, none⟩ = some (.slice Ao13 t316.length co13) := (ze BK310.out 4).trans rfl
           have hcz59_5 : wr.cell? ⟨gb310, 5, none⟩ = some (.string t319) := (ze BK310.out 5).trans rfl
           have hfz59_0 := za BK310.out 0
           have hfz59_1 := za BK310.out 1
           have hfz59_2 := za BK310.out 2
           have hfz59_3 := za BK310.out 3
           have hfz59_4 := za BK310.out 4
           have hfz59_5 := za BK310.out 5
           go_wp2_with (first | ((with_reducible refine gate_callee (f := 54) rfl ?_); refine goesL_ (some 55) rfl rfl Tryd.func54 (by kernel_rfl) rfl #[.string t319] rfl (by (try simp only [zP, zQ, zR]); first | done | rfl | (simp only [zS, zT]; rfl)) ?_; (with_reducible refine (purl_path.calls k2 t319 t326 _ A53.out).mono ?_); rintro e w60 ⟨rfl, hb⟩; refine ⟨_, rfl, ?_⟩; have n0_ := Aq.mk (yj (by (with_reducible repeat (first | apply zC | apply zB | apply zD)); exact HO_28.out) hb); have n1_ := Aq.mk (yj (by (with_reducible repeat (first | apply zC | apply zB | apply zD)); exact HO_311004.out) hb); have n2_ := Aq.mk (zw (g := gb310) (o := .cells #[.string t312, .string t313, .string t314, .string t315, .slice Ao13 t316.length co13, .string t319] 24 (0, 0)) (by (with_reducible repeat (first | refine zg ?_ _ | refine zi ?_ | refine zh ?_ _)); exact BK310.out) hb); have n3_ := Aq.mk (zv (by repeat (with_reducible first | exact HB.out | apply zd | apply zb | apply zc | refine zf ?_ GE310.out)) hb); clear HO_28; clear HO_311004; clear BK310; clear HB; have HO_28 := n0_; have HO_311004 := n1_; have BK310 := n2_; have HB := n3_; clear n0_ n1_ n2_ n3_; (try clear hb); (try clear hb2); (try clear hk); (try clear hi)))
           go_ret2
           exact ⟨by first | rfl | (simp [yl, ym] <;> rfl) | (simp [*, yl, ym] <;> rfl), by repeat (with_reducible first | exact HB.out | apply zd | apply zb | apply zc | refine zf ?_ GE310.out)⟩
         ·rw [if_neg c55] at H
          exact absurd H (by simp)
        ·rw [if_neg c54] at H
         exact absurd H (by simp)
 ·rw [if_neg c3] at H
  have c3b0 : (t311 == 0) = false := ye.mpr c3
  have c3b1 : (t311 != 0) = true := yd.mpr c3
  simp only [zH, zI] at H
  obtain ⟨rfl, rfl⟩ := H
  go_enter Tryd.func14, Tryd.ntmps14
  go_wp2_with (first | ((with_reducible refine gate_dst (N := 1) rfl ?_); refine box_event ?hg (N := 1) ?hd (cs := #[.string a0_0, .string a0_1, .string a0_2, .string a0_3, .slice A0_4 l0_4.length c0_4, .string a0_5]) (t := 24) ?hr ?_; (case hd => rfl); (case hg => rfl); (case hr => first | (go_simp; done) | (go_simp; rfl)); intro gb310 hg w61 hbox hb; have n0_ := Aq.mk (zv (by repeat (with_reducible first | exact HB.out | apply zd | apply zb | apply zc)) hb); have n1_ := Aq.mk (hbox); have n2_ := Aq.mk ((by rw [hg]; exact (zz (by repeat (with_reducible first | exact HB.out | apply zd | apply zb | apply zc))) : w.heap.size ≤ gb310)); have n3_ := Aq.mk ((by rw [hg]; exact (zz (by repeat (with_reducible first | exact HB.out | apply zd | apply zb | apply zc))) : w.heap.size ≤ gb310)); clear HB; have HB := n0_; have BK310 := n1_; have GW310 := n2_; have GE310 := n3_; clear n0_ n1_ n2_ n3_; clear hb hbox hg; have hcz62_0 : w61.cell? ⟨gb310, 0, none⟩ = some (.string a0_0) := (ze BK310.out 0).trans rfl; have hcz62_1 : w61.cell? ⟨gb310, 1, none⟩ = some (.string a0_1) := (ze BK310.out 1).trans rfl; have hcz62_2 : w61.cell? ⟨gb310, 2, none⟩ = some (.string a0_2) := (ze BK310.out 2).trans rfl; have hcz62_3 : w61.cell? ⟨gb310, 3, none⟩ = some (.string a0_3) := (ze BK310.out 3).trans rfl; have hcz62_4 : w61.cell? ⟨gb310, 4, none⟩ = some (.slice A0_4 l0_4.length c0_4) := (ze BK310.out 4).trans rfl; have hcz62_5 : w61.cell? ⟨gb310, 5, none⟩ = some (.string a0_5) := (ze BK310.out 5).trans rfl; have hfz62_0 := za BK310.out 0; have hfz62_1 := za BK310.out 1; have hfz62_2 := za BK310.out 2; have hfz62_3 := za BK310.out 3; have hfz62_4 := za BK310.out 4; have hfz62_5 := za BK310.out 5) | ((with_reducible refine gate_callee (f := 26) rfl ?_); refine goesL_ (some 10) rfl rfl Tryd.func26 (by kernel_rfl) rfl #[.agg #[.string a0_0, .string a0_1, .string a0_2, .string a0_3, .slice A0_4 l0_4.length c0_4, .string a0_5]] rfl (by (try simp only [zP, zQ, zR]); first | done | rfl | (simp only [zS, zT]; rfl)) ?_; (with_reducible refine (purl_Check.calls k a0_0 a0_1 a0_2 a0_3 _ _ l0_4 a0_5 t311 _ ?side1 ?side2 A2.out).mono ?_); (case side1 => repeat (first | exact (Kd.C_below HR0_4.out HB.out) | (with_reducible refine zF ?_ _) | (with_reducible refine zE ?_ _) | (with_reducible refine zG ?_))); (case side2 => exact HC0_4.out); rintro e w63 ⟨rfl, hb⟩; refine ⟨_, rfl, ?_⟩; have n0_ := Aq.mk (zw (g := gb310) (o := .cells #[.string a0_0, .string a0_1, .string a0_2, .string a0_3, .slice A0_4 l0_4.length c0_4, .string a0_5] 24 (0, 0)) (by (with_reducible repeat (first | refine zg ?_ _ | refine zi ?_ | refine zh ?_ _)); exact BK310.out) hb); have n1_ := Aq.mk (zv (by repeat (with_reducible first | exact HB.out | apply zd | apply zb | apply zc | refine zf ?_ GE310.out)) hb); clear BK310; clear HB; have BK310 := n0_; have HB := n1_; clear n0_ n1_; (try clear hb); (try clear hb2); (try clear hk); (try clear hi)))
  go_ret2
  exact ⟨by first | rfl | (simp [yl, ym] <;> rfl) | (simp [*, yl, ym] <;> rfl), by repeat (with_reducible first | exact HB.out | apply zd | apply zb | apply zc | refine zf ?_ GE310.out)⟩
end Go.Proofs.YtmnfjbmhlabdaaaDoor.Pr
